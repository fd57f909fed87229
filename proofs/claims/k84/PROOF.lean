import PyProof.Rows.All
import Wide.All
import OpenK.AllK
import Wide.FinOn
import HandS.ForMost
import HandS.DictComp
import HandS.Conv
import HandS.SortInts
import HandS.SortRule
import HandS.Deep
import HandS.TupLe
import HandS.IsInst
import HandS.Zip
import HandS.DictEq
import KE.SortData
import PyProof.ReprRoads
import HandS.Comp
import HandS.Style
import HandS.ForExc
import HandS.TupAny
import HandS.SortKw
import KE.DataMinMax
import KE.GoesEnum
import HandS.RaiseMore
import HandS.SetFor
import HandS.Strs
import KE.KEqDict
import HandS.ExcInit
import HandS.ExcSuper
import HandS.ExcField
import KE.KExcSuper
import PyProof.StrLawsRepr
import PyProof.FitsInt
import KE.RegKSuper
import PySem.Challenge.RW_nonearer_k84_whole_answers_in_great_stat
set_option Elab.async false
set_option linter.all false
set_option maxRecDepth 100000
set_option maxHeartbeats 4000000
/-! Dn1: plain data, what stands for it in a heap, an environment of slots. -/
namespace Dn
open PySem L2

/-! ### data -/
inductive D where
  | non
  | bl (b : Bool)
  | int (i : Int)
  | str (x : Str)
  | tup (xs : List D)
  | lst (xs : List D)
  | dic (kvs : List (Key × D))
  /-- the law's script: ints, known to the module or locked -/
  | scr (ns : List Int)

/-- what B tracks stands in H, or is locked there (a dict that is walked) -/
def Le (B H : Hp) : Prop :=
  ∀ a u, B a = some u → H a = some u ∨ ∃ o kvs, u = .dK kvs ∧ H a = some (.frz o u)
def Sub (B B' : Hp) : Prop := ∀ a u, B a = some u → B' a = some u

theorem Sub.rfl' {B : Hp} : Sub B B := fun _ _ h => h
theorem Sub.tr {A B C : Hp} (x : Sub A B) (y : Sub B C) : Sub A C := fun a u h => y a u (x a u h)
theorem Sub.le {A B : Hp} (x : Sub A B) : Le A B := fun a u h => .inl (x a u h)
theorem Le.tr {A B C : Hp} (x : Le A B) (y : Le B C) : Le A C := by
  intro a u h
  rcases x a u h with e | ⟨o, kvs, e1, e2⟩
  · exact y a u e
  · rcases y a _ e2 with e | ⟨o', kvs', e3, _⟩
    · exact .inr ⟨o, kvs, e1, e⟩
    · cases e3
theorem Le.subl {A B C : Hp} (x : Sub A B) (y : Le B C) : Le A C := fun a u h => y a u (x a u h)
theorem Le.rd {B H : Hp} (x : Le B H) {a : Addr} {u : HO} (r : Rd B a u) : Rd H a u := by
  rcases r with e | ⟨o, e⟩
  · rcases x a u e with e' | ⟨o, _, _, e'⟩
    · exact .inl e'
    · exact .inr ⟨o, e'⟩
  · rcases x a _ e with e' | ⟨_, _, z, _⟩
    · exact .inr ⟨o, e'⟩
    · cases z
theorem Le.sqT {K : PySem.W.Frag} {B H : Hp} (x : Le B H) {a : Addr} {xs : List V} (r : SqT K B a xs) : SqT K H a xs := by
  rcases r with r | r
  · exact .inl (x.rd r)
  · exact .inr r
theorem Le.sqL {K : PySem.W.Frag} {B H : Hp} (x : Le B H) {a : Addr} {xs : List V} (r : SqL K B a xs) : SqL K H a xs := by
  rcases r with r | r
  · exact .inl (x.rd r)
  · exact .inr r

/-! ### what stands for data -/
mutual
inductive Dq (K : PySem.W.Frag) (B : Hp) : V → D → Prop
  | non : Dq K B .non .non
  | bl (b : Bool) : Dq K B (.bl b) (.bl b)
  | int (i : Int) : Dq K B (.int i) (.int i)
  | str (x : Str) : Dq K B (.str x) (.str x)
  | tup {a : Addr} {xs : List V} {ds : List D} : SqT K B a xs → DqL K B xs ds → Dq K B (.ref a) (.tup ds)
  | lst {a : Addr} {xs : List V} {ds : List D} : Rd B a (.lst xs) → DqL K B xs ds → Dq K B (.ref a) (.lst ds)
  | scr {a : Addr} {ns : List Int} : SqL K B a (ns.map V.int) → Dq K B (.ref a) (.scr ns)
  | dic {a : Addr} {kvs : List (Key × V)} {ds : List (Key × D)} : Rd B a (.dK kvs) → DqM K B kvs ds → Dq K B (.ref a) (.dic ds)
inductive DqL (K : PySem.W.Frag) (B : Hp) : List V → List D → Prop
  | nil : DqL K B [] []
  | cons {v : V} {d : D} {vs : List V} {ds : List D} : Dq K B v d → DqL K B vs ds → DqL K B (v :: vs) (d :: ds)
inductive DqM (K : PySem.W.Frag) (B : Hp) : List (Key × V) → List (Key × D) → Prop
  | nil : DqM K B [] []
  | cons {k : Key} {v : V} {d : D} {vs : List (Key × V)} {ds : List (Key × D)} : Dq K B v d → DqM K B vs ds → DqM K B ((k, v) :: vs) ((k, d) :: ds)
end

section
variable {K : PySem.W.Frag} {B H : Hp}
mutual
theorem Dq.mono (l : Le B H) : ∀ (d : D) (v : V), Dq K B v d → Dq K H v d
  | .non, _, h => by cases h; exact .non
  | .bl _, _, h => by cases h; exact .bl _
  | .int _, _, h => by cases h; exact .int _
  | .str _, _, h => by cases h; exact .str _
  | .tup ds, _, h => by
    cases h with
    | tup h1 h2 => exact .tup (l.sqT h1) (DqL.mono l ds _ h2)
  | .lst ds, _, h => by
    cases h with
    | lst h1 h2 => exact .lst (l.rd h1) (DqL.mono l ds _ h2)
  | .dic ds, _, h => by
    cases h with
    | dic h1 h2 => exact .dic (l.rd h1) (DqM.mono l ds _ h2)
  | .scr ns, _, h => by
    cases h with
    | scr h1 => exact .scr (l.sqL h1)
theorem DqL.mono (l : Le B H) : ∀ (ds : List D) (vs : List V), DqL K B vs ds → DqL K H vs ds
  | [], _, h => by cases h; exact .nil
  | d :: ds, _, h => by
    cases h with
    | cons h1 h2 => exact .cons (Dq.mono l d _ h1) (DqL.mono l ds _ h2)
theorem DqM.mono (l : Le B H) : ∀ (ds : List (Key × D)) (vs : List (Key × V)), DqM K B vs ds → DqM K H vs ds
  | [], _, h => by cases h; exact .nil
  | (k, d) :: ds, _, h => by
    cases h with
    | cons h1 h2 => exact .cons (Dq.mono l d _ h1) (DqM.mono l ds _ h2)
end
theorem Dq.up (l : Le B H) {d : D} {v : V} (h : Dq K B v d) : Dq K H v d := Dq.mono l d v h
theorem DqL.up (l : Le B H) {d : List D} {v : List V} (h : DqL K B v d) : DqL K H v d := DqL.mono l d v h
theorem DqM.up (l : Le B H) {d : List (Key × D)} {v : List (Key × V)} (h : DqM K B v d) : DqM K H v d := DqM.mono l d v h
theorem DqL.length : ∀ {vs : List V} {ds : List D}, DqL K B vs ds → vs.length = ds.length
  | _, [], h => by cases h; rfl
  | _, _ :: _, h => by
    cases h with
    | cons h1 h2 => simp [DqL.length h2]
theorem DqL.get : ∀ {vs : List V} {ds : List D} {i : Nat} {d : D}, DqL K B vs ds → ds[i]? = some d → ∃ v, vs[i]? = some v ∧ Dq K B v d
  | _, [], _, _, h, e => by simp at e
  | _, d0 :: ds, 0, d, h, e => by
    cases h with
    | cons h1 h2 =>
      simp at e
      subst e
      exact ⟨_, rfl, h1⟩
  | _, d0 :: ds, i + 1, d, h, e => by
    cases h with
    | cons h1 h2 =>
      obtain ⟨v, e1, e2⟩ := DqL.get h2 (by simpa using e)
      exact ⟨v, by simpa using e1, e2⟩
theorem DqL.getV : ∀ {vs : List V} {ds : List D} {i : Nat} {v : V}, DqL K B vs ds → vs[i]? = some v → ∃ d, ds[i]? = some d ∧ Dq K B v d
  | _, [], _, _, h, e => by cases h; simp at e
  | _, d0 :: ds, 0, v, h, e => by
    cases h with
    | cons h1 h2 =>
      simp at e
      subst e
      exact ⟨_, rfl, h1⟩
  | _, d0 :: ds, i + 1, v, h, e => by
    cases h with
    | cons h1 h2 =>
      obtain ⟨d, e1, e2⟩ := DqL.getV h2 (by simpa using e)
      exact ⟨d, by simpa using e1, e2⟩
theorem DqL.app : ∀ {vs ws : List V} {ds es : List D}, DqL K B vs ds → DqL K B ws es → DqL K B (vs ++ ws) (ds ++ es)
  | _, _, [], _, h, g => by cases h; exact g
  | _, _, d :: ds, _, h, g => by
    cases h with
    | cons h1 h2 => exact .cons h1 (DqL.app h2 g)
theorem DqL.snoc {vs : List V} {v : V} {ds : List D} {d : D} (h : DqL K B vs ds) (g : Dq K B v d) : DqL K B (vs ++ [v]) (ds ++ [d]) := h.app (.cons g .nil)
theorem DqL.drop : ∀ {vs : List V} {ds : List D} (n : Nat), DqL K B vs ds → DqL K B (vs.drop n) (ds.drop n)
  | _, _, 0, h => h
  | _, [], n + 1, h => by cases h; exact .nil
  | _, d :: ds, n + 1, h => by
    cases h with
    | cons h1 h2 => exact DqL.drop n h2
theorem DqL.take : ∀ {vs : List V} {ds : List D} (n : Nat), DqL K B vs ds → DqL K B (vs.take n) (ds.take n)
  | _, _, 0, h => by simpa using DqL.nil
  | _, [], n + 1, h => by cases h; exact .nil
  | _, d :: ds, n + 1, h => by
    cases h with
    | cons h1 h2 => exact .cons h1 (DqL.take n h2)
theorem DqL.rev : ∀ {vs : List V} {ds : List D}, DqL K B vs ds → DqL K B vs.reverse ds.reverse
  | _, [], h => by cases h; exact .nil
  | _, d :: ds, h => by
    cases h with
    | cons h1 h2 =>
      rw [List.reverse_cons, List.reverse_cons]
      exact (DqL.rev h2).snoc h1
theorem DqL.set : ∀ {vs : List V} {ds : List D} (i : Nat) {v : V} {d : D}, DqL K B vs ds → Dq K B v d → DqL K B (vs.set i v) (ds.set i d)
  | _, [], i, _, _, h, g => by cases h; exact .nil
  | _, d :: ds, 0, _, _, h, g => by
    cases h with
    | cons h1 h2 => exact .cons g h2
  | _, d :: ds, i + 1, _, _, h, g => by
    cases h with
    | cons h1 h2 => exact .cons h1 (DqL.set i h2 g)
theorem DqM.length : ∀ {vs : List (Key × V)} {ds : List (Key × D)}, DqM K B vs ds → vs.length = ds.length
  | _, [], h => by cases h; rfl
  | _, _ :: _, h => by
    cases h with
    | cons h1 h2 => simp [DqM.length h2]
theorem DqM.get : ∀ {vs : List (Key × V)} {ds : List (Key × D)} {i : Nat} {k : Key} {d : D}, DqM K B vs ds → ds[i]? = some (k, d) → ∃ v, vs[i]? = some (k, v) ∧ Dq K B v d
  | _, [], _, _, _, h, e => by simp at e
  | _, (k0, d0) :: ds, 0, k, d, h, e => by
    cases h with
    | cons h1 h2 =>
      simp at e
      obtain ⟨rfl, rfl⟩ := e
      exact ⟨_, rfl, h1⟩
  | _, (k0, d0) :: ds, i + 1, k, d, h, e => by
    cases h with
    | cons h1 h2 =>
      obtain ⟨v, e1, e2⟩ := DqM.get h2 (by simpa using e)
      exact ⟨v, by simpa using e1, e2⟩
theorem DqM.keys : ∀ {vs : List (Key × V)} {ds : List (Key × D)}, DqM K B vs ds → vs.map (·.1) = ds.map (·.1)
  | _, [], h => by cases h; rfl
  | _, (k, d) :: ds, h => by
    cases h with
    | cons h1 h2 => simp [DqM.keys h2]
end

/-! ### dicts as lists of pairs -/
def dGet (kvs : List (Key × D)) (k : Key) : Option D := (kvs.find? fun kv => decide (kv.1 = k)).map (·.2)
def dPut (kvs : List (Key × D)) (k : Key) (v : D) : List (Key × D) :=
  if (kvs.any fun kv => decide (kv.1 = k)) = true then kvs.map fun kv => if kv.1 = k then (kv.1, v) else kv else kvs ++ [(k, v)]
def dDrop (kvs : List (Key × D)) (k : Key) : List (Key × D) := kvs.filter fun kv => decide (kv.1 ≠ k)
section
variable {K : PySem.W.Frag} {B : Hp}
theorem DqM.look : ∀ {vs : List (Key × V)} {ds : List (Key × D)} (k : Key), DqM K B vs ds →
    (valV vs k = none ∧ dGet ds k = none) ∨ ∃ v d, valV vs k = some v ∧ dGet ds k = some d ∧ Dq K B v d
  | _, [], k, h => by cases h; exact .inl ⟨rfl, rfl⟩
  | _, (k0, d) :: ds, k, h => by
    cases h with
    | @cons _ v _ vs _ h1 h2 =>
      by_cases e : k0 = k
      · exact .inr ⟨v, d, valV_pos e, by simp [dGet, List.find?_cons, e], h1⟩
      · have e1 : valV ((k0, v) :: vs) k = valV vs k := valV_neg e
        have e2 : dGet ((k0, d) :: ds) k = dGet ds k := by simp [dGet, List.find?_cons, e]
        rw [e1, e2]
        exact DqM.look k h2
theorem DqM.any (k : Key) : ∀ {vs : List (Key × V)} {ds : List (Key × D)}, DqM K B vs ds →
    (vs.any fun kv => decide (kv.1 = k)) = (ds.any fun kv => decide (kv.1 = k))
  | _, [], h => by cases h; rfl
  | _, (k0, d) :: ds, h => by
    cases h with
    | cons h1 h2 => simp [DqM.any k h2]
theorem DqM.repl (k : Key) {y : V} {e : D} (hy : Dq K B y e) : ∀ {vs : List (Key × V)} {ds : List (Key × D)}, DqM K B vs ds →
    DqM K B (vs.map fun kv => if kv.1 = k then (kv.1, y) else kv) (ds.map fun kv => if kv.1 = k then (kv.1, e) else kv)
  | _, [], h => by cases h; exact .nil
  | _, (k0, d) :: ds, h => by
    cases h with
    | cons h1 h2 =>
      by_cases q : k0 = k
      · simp only [List.map_cons, if_pos q]
        exact .cons hy (DqM.repl k hy h2)
      · simp only [List.map_cons, if_neg q]
        exact .cons h1 (DqM.repl k hy h2)
theorem DqM.app : ∀ {vs ws : List (Key × V)} {ds es : List (Key × D)}, DqM K B vs ds → DqM K B ws es → DqM K B (vs ++ ws) (ds ++ es)
  | _, _, [], _, h, g => by cases h; exact g
  | _, _, (k, d) :: ds, _, h, g => by
    cases h with
    | cons h1 h2 => exact .cons h1 (DqM.app h2 g)
theorem DqM.put (k : Key) {y : V} {e : D} (hy : Dq K B y e) {vs : List (Key × V)} {ds : List (Key × D)} (h : DqM K B vs ds) : DqM K B (putK vs k y) (dPut ds k e) := by
  unfold putK dPut
  rw [h.any k]
  split
  · exact h.repl k hy
  · exact h.app (.cons hy .nil)
theorem DqM.drop (k : Key) : ∀ {vs : List (Key × V)} {ds : List (Key × D)}, DqM K B vs ds → DqM K B (dropK vs k) (dDrop ds k)
  | _, [], h => by cases h; exact .nil
  | _, (k0, d) :: ds, h => by
    cases h with
    | @cons _ v _ vs _ h1 h2 =>
      by_cases e : k0 = k
      · have e1 : dropK ((k0, v) :: vs) k = dropK vs k := by simp [dropK, e]
        have e2 : dDrop ((k0, d) :: ds) k = dDrop ds k := by simp [dDrop, e]
        rw [e1, e2]
        exact DqM.drop k h2
      · have e1 : dropK ((k0, v) :: vs) k = (k0, v) :: dropK vs k := by simp [dropK, e]
        have e2 : dDrop ((k0, d) :: ds) k = (k0, d) :: dDrop ds k := by simp [dDrop, e]
        rw [e1, e2]
        exact .cons h1 (DqM.drop k h2)
end

/-! ### owned trees: lists and dicts that nobody else holds, with data at their leaves -/
inductive O where
  | val (d : D)
  | lst (os : List O)
  | dic (kvs : List (Key × O))

mutual
inductive OR (K : PySem.W.Frag) (B H : Hp) : V → O → List Addr → Prop
  | val {v : V} {d : D} : Dq K B v d → OR K B H v (.val d) []
  | lst {a : Addr} {xs : List V} {os : List O} {f : List Addr} : B a = none → H a = some (.lst xs) → ORL K B H xs os f → a ∉ f → OR K B H (.ref a) (.lst os) (a :: f)
  | dic {a : Addr} {kvs : List (Key × V)} {os : List (Key × O)} {f : List Addr} : B a = none → H a = some (.dK kvs) → ORM K B H kvs os f → a ∉ f → OR K B H (.ref a) (.dic os) (a :: f)
inductive ORL (K : PySem.W.Frag) (B H : Hp) : List V → List O → List Addr → Prop
  | nil : ORL K B H [] [] []
  | cons {v : V} {o : O} {vs : List V} {os : List O} {f g : List Addr} : OR K B H v o f → ORL K B H vs os g → (∀ a ∈ f, a ∉ g) → ORL K B H (v :: vs) (o :: os) (f ++ g)
inductive ORM (K : PySem.W.Frag) (B H : Hp) : List (Key × V) → List (Key × O) → List Addr → Prop
  | nil : ORM K B H [] [] []
  | cons {k : Key} {v : V} {o : O} {vs : List (Key × V)} {os : List (Key × O)} {f g : List Addr} : OR K B H v o f → ORM K B H vs os g → (∀ a ∈ f, a ∉ g) → ORM K B H ((k, v) :: vs) ((k, o) :: os) (f ++ g)
end

section
variable {K : PySem.W.Frag} {B H B' H' : Hp}
mutual
/-- a tree stays where its own objects stay and its data stay -/
theorem OR.keep (l : Le B B') : ∀ (o : O) (v : V) (f : List Addr), OR K B H v o f → (∀ a ∈ f, H' a = H a ∧ B' a = none) → OR K B' H' v o f
  | .val d, _, _, h, k => by
    cases h with
    | val h1 => exact .val (h1.up l)
  | .lst os, _, _, h, k => by
    cases h with
    | lst h1 h2 h3 h4 =>
      have q := k _ List.mem_cons_self
      exact .lst q.2 (q.1.trans h2) (ORL.keep l os _ _ h3 fun b hb => k b (List.mem_cons_of_mem _ hb)) h4
  | .dic os, _, _, h, k => by
    cases h with
    | dic h1 h2 h3 h4 =>
      have q := k _ List.mem_cons_self
      exact .dic q.2 (q.1.trans h2) (ORM.keep l os _ _ h3 fun b hb => k b (List.mem_cons_of_mem _ hb)) h4
theorem ORL.keep (l : Le B B') : ∀ (os : List O) (vs : List V) (f : List Addr), ORL K B H vs os f → (∀ a ∈ f, H' a = H a ∧ B' a = none) → ORL K B' H' vs os f
  | [], _, _, h, _ => by cases h; exact .nil
  | o :: os, _, _, h, k => by
    cases h with
    | cons h1 h2 h3 =>
      exact .cons (OR.keep l o _ _ h1 fun b hb => k b (List.mem_append_left _ hb)) (ORL.keep l os _ _ h2 fun b hb => k b (List.mem_append_right _ hb)) h3
theorem ORM.keep (l : Le B B') : ∀ (os : List (Key × O)) (vs : List (Key × V)) (f : List Addr), ORM K B H vs os f → (∀ a ∈ f, H' a = H a ∧ B' a = none) → ORM K B' H' vs os f
  | [], _, _, h, _ => by cases h; exact .nil
  | (k0, o) :: os, _, _, h, k => by
    cases h with
    | cons h1 h2 h3 =>
      exact .cons (OR.keep l o _ _ h1 fun b hb => k b (List.mem_append_left _ hb)) (ORM.keep l os _ _ h2 fun b hb => k b (List.mem_append_right _ hb)) h3
end
mutual
/-- a tree's own objects are no part of the data's heap, and stand -/
theorem OR.foot : ∀ (o : O) (v : V) (f : List Addr), OR K B H v o f → ∀ a ∈ f, B a = none ∧ H a ≠ none
  | .val d, _, _, h => by
    cases h with
    | val h1 => intro a ha; cases ha
  | .lst os, _, _, h => by
    cases h with
    | lst h1 h2 h3 h4 =>
      intro b hb
      rcases List.mem_cons.mp hb with rfl | hb
      · exact ⟨h1, by rw [h2]; simp⟩
      · exact ORL.foot os _ _ h3 b hb
  | .dic os, _, _, h => by
    cases h with
    | dic h1 h2 h3 h4 =>
      intro b hb
      rcases List.mem_cons.mp hb with rfl | hb
      · exact ⟨h1, by rw [h2]; simp⟩
      · exact ORM.foot os _ _ h3 b hb
theorem ORL.foot : ∀ (os : List O) (vs : List V) (f : List Addr), ORL K B H vs os f → ∀ a ∈ f, B a = none ∧ H a ≠ none
  | [], _, _, h => by
    cases h
    intro a ha; cases ha
  | o :: os, _, _, h => by
    cases h with
    | cons h1 h2 h3 =>
      intro b hb
      rcases List.mem_append.mp hb with hb | hb
      · exact OR.foot o _ _ h1 b hb
      · exact ORL.foot os _ _ h2 b hb
theorem ORM.foot : ∀ (os : List (Key × O)) (vs : List (Key × V)) (f : List Addr), ORM K B H vs os f → ∀ a ∈ f, B a = none ∧ H a ≠ none
  | [], _, _, h => by
    cases h
    intro a ha; cases ha
  | (k0, o) :: os, _, _, h => by
    cases h with
    | cons h1 h2 h3 =>
      intro b hb
      rcases List.mem_append.mp hb with hb | hb
      · exact OR.foot o _ _ h1 b hb
      · exact ORM.foot os _ _ h2 b hb
end
/-- a list of data, as an owned list's items -/
theorem ORL.vals : ∀ {vs : List V} {ds : List D}, DqL K B vs ds → ORL K B H vs (ds.map O.val) []
  | _, [], h => by cases h; exact .nil
  | _, d :: ds, h => by
    cases h with
    | cons h1 h2 => exact ORL.cons (f := []) (g := []) (.val h1) (ORL.vals h2) (fun a ha => by cases ha)
theorem ORL.vals_inv : ∀ {vs : List V} {ds : List D} {f : List Addr}, ORL K B H vs (ds.map O.val) f → f = [] ∧ DqL K B vs ds
  | _, [], _, h => by cases h; exact ⟨rfl, .nil⟩
  | _, d :: ds, _, h => by
    cases h with
    | cons h1 h2 h3 =>
      cases h1 with
      | val h1 =>
        obtain ⟨e, h4⟩ := ORL.vals_inv h2
        subst e
        exact ⟨rfl, .cons h1 h4⟩
theorem ORM.vals : ∀ {vs : List (Key × V)} {ds : List (Key × D)}, DqM K B vs ds → ORM K B H vs (ds.map fun p => (p.1, O.val p.2)) []
  | _, [], h => by cases h; exact .nil
  | _, (k, d) :: ds, h => by
    cases h with
    | cons h1 h2 => exact ORM.cons (f := []) (g := []) (.val h1) (ORM.vals h2) (fun a ha => by cases ha)
theorem ORM.vals_inv : ∀ {vs : List (Key × V)} {ds : List (Key × D)} {f : List Addr}, ORM K B H vs (ds.map fun p => (p.1, O.val p.2)) f → f = [] ∧ DqM K B vs ds
  | _, [], _, h => by cases h; exact ⟨rfl, .nil⟩
  | _, (k, d) :: ds, _, h => by
    cases h with
    | cons h1 h2 h3 =>
      cases h1 with
      | val h1 =>
        obtain ⟨e, h4⟩ := ORM.vals_inv h2
        subst e
        exact ⟨rfl, .cons h1 h4⟩
end
/-- an owned list of data; an owned dict of data -/
abbrev O.ls (ds : List D) : O := .lst (ds.map O.val)
abbrev O.dc (kvs : List (Key × D)) : O := .dic (kvs.map fun p => (p.1, O.val p.2))

/-! ### growth -/
/-- from (B, H) to (B', H'): data stay, what stood stands (but for M), what stood beside the data is no data later -/
structure Gr (M : Addr → Prop) (B H B' H' : Hp) : Prop where
  b : Sub B B'
  h : ∀ a u, H a = some u → B a = none → ¬ M a → H' a = some u
  z : ∀ a o u, H a = some (.frz o u) → H' a = some (.frz o u)
  p : ∀ a, H a ≠ none → H' a ≠ none
  s : ∀ a, B a = none → H a ≠ none → B' a = none
abbrev NoM : Addr → Prop := fun _ => False
section
variable {M M' : Addr → Prop} {B H B1 H1 B2 H2 : Hp}
theorem Gr.rfl' : Gr M B H B H := ⟨Sub.rfl', fun _ _ h _ _ => h, fun _ _ _ h => h, fun _ h => h, fun _ h _ => h⟩
theorem Gr.tr (x : Gr M B H B1 H1) (y : Gr M B1 H1 B2 H2) : Gr M B H B2 H2 :=
  ⟨x.b.tr y.b, fun a u h b n => y.h a u (x.h a u h b n) (x.s a b (by rw [h]; simp)) n, fun a o u h => y.z a o u (x.z a o u h), fun a h => y.p a (x.p a h), fun a h g => y.s a (x.s a h g) (x.p a g)⟩
theorem Gr.mono (x : Gr M B H B1 H1) (h : ∀ a, M a → M' a) : Gr M' B H B1 H1 := ⟨x.b, fun a u e b n => x.h a u e b fun m => n (h a m), x.z, x.p, x.s⟩
theorem Gr.all (x : Gr NoM B H B1 H1) : Gr M B H B1 H1 := x.mono fun _ z => z.elim
/-- a new object beside the data -/
theorem Gr.new {p : Addr} {o : HO} (n : H p = none) : Gr M B H B (upd H p o) where
  b := Sub.rfl'
  h := fun a u e _ _ => by rw [upd_ne (ne_of_none e n)]; exact e
  z := fun a _ _ e => by rw [upd_ne (ne_of_none e n)]; exact e
  p := fun a e => by
    unfold upd
    split
    · simp
    · exact e
  s := fun _ h _ => h
/-- a new object of the data -/
theorem Gr.newB {p : Addr} {o : HO} (le : Le B H) (n : H p = none) : Gr M B H (upd B p o) (upd H p o) where
  b := fun a u e => by
    rw [upd_ne]
    · exact e
    · rintro rfl
      rcases le _ _ e with q | ⟨_, _, _, q⟩ <;> (rw [n] at q; cases q)
  h := fun a u e _ _ => by rw [upd_ne (ne_of_none e n)]; exact e
  z := fun a _ _ e => by rw [upd_ne (ne_of_none e n)]; exact e
  p := fun a e => by
    unfold upd
    split
    · simp
    · exact e
  s := fun a h g => by
    rw [upd_ne]
    · exact h
    · rintro rfl
      exact g n
theorem Le.newB {p : Addr} {o : HO} (le : Le B H) (n : H p = none) : Le (upd B p o) (upd H p o) := by
  intro a u e
  by_cases q : a = p
  · subst q
    rw [upd_same] at e
    exact .inl (by rw [upd_same]; exact e)
  · rw [upd_ne q] at e ⊢
    exact le a u e
theorem Le.new {p : Addr} {o : HO} (le : Le B H) (n : H p = none) : Le B (upd H p o) := by
  intro a u e
  have q : a ≠ p := by
    rintro rfl
    rcases le _ _ e with q | ⟨_, _, _, q⟩ <;> (rw [n] at q; cases q)
  rw [upd_ne q]
  exact le a u e
/-- an object beside the data is written -/
theorem Le.write {p : Addr} {o : HO} (le : Le B H) (n : B p = none) : Le B (upd H p o) := by
  intro a u e
  have q : a ≠ p := by
    rintro rfl
    rw [n] at e; cases e
  rw [upd_ne q]
  exact le a u e
theorem none_of_le {p : Addr} (le : Le B H) (n : H p = none) : B p = none := by
  cases e : B p with
  | none => rfl
  | some u =>
    rcases le _ _ e with q | ⟨_, _, _, q⟩ <;> (rw [n] at q; cases q)
end

/-! ### the environment -/
inductive Slot where
  | no
  | own (o : O)
  /-- the object that the def was lent -/
  | bor (I : O → Prop)
/-- data -/
abbrev Slot.v (d : D) : Slot := .own (.val d)

/-- a def's entry: the data, the heap, what may change of it, the object that is lent (its value, what always holds of it) -/
structure Ent where
  B : Hp
  H : Hp
  M : Addr → Prop
  bw : Option (V × (O → Prop))
  /-- what is locked -/
  lk : List (Addr × Obj × HO)

def BwOk (K : PySem.W.Frag) (M : Addr → Prop) (bw : Option (V × (O → Prop))) (B H : Hp) : Prop :=
  match bw with
  | none => True
  | some (v, I) => ∃ o f, I o ∧ OR K B H v o f ∧ ∀ a ∈ f, M a
def SlR (K : PySem.W.Frag) (e : Ent) (B H : Hp) (x : Option (Option V)) (f : List Addr) : Option Slot → Prop
  | some (.own o) => ∃ v, x = some (some v) ∧ OR K B H v o f
  | some (.bor I) => ∃ v, x = some (some v) ∧ e.bw = some (v, I) ∧ f = []
  | _ => f = []
structure Rp (K : PySem.W.Frag) (e : Ent) (B H : Hp) (σ : St) (Γ : List Slot) : Prop where
  le : Le B H
  gr : Gr e.M e.B e.H B H
  len : σ.length = Γ.length
  bw : BwOk K e.M e.bw B H
  sl : ∃ F : Nat → List Addr, (∀ i j a, a ∈ F i → a ∈ F j → i = j) ∧ (∀ i, ∀ a ∈ F i, e.H a = none) ∧ ∀ i, SlR K e B H σ[i]? (F i) Γ[i]?
  me : ∀ a, e.M a → e.H a ≠ none ∧ e.B a = none
  lks : ∀ p ∈ e.lk, H p.1 = some (.frz p.2.1 p.2.2)

section
variable {K : PySem.W.Frag} {e : Ent} {B H B' H' : Hp} {σ : St} {Γ : List Slot}
theorem BwOk.step {M : Addr → Prop} {bw : Option (V × (O → Prop))} (g : Gr NoM B H B' H') (w : BwOk K M bw B H) : BwOk K M bw B' H' := by
  unfold BwOk at w ⊢
  split
  · trivial
  · obtain ⟨o, f, i, r, m⟩ := w
    refine ⟨o, f, i, OR.keep g.b.le _ _ _ r fun a ha => ?_, m⟩
    obtain ⟨h1, h2⟩ := OR.foot _ _ _ r a ha
    cases q : H a with
    | none => exact absurd q h2
    | some u => exact ⟨g.h a u q h1 (fun z => z.elim), g.s a h1 h2⟩
/-- slots stay where their objects stay -/
theorem SlR.keep {x : Option (Option V)} {f : List Addr} {s : Option Slot} (l : Le B B') (w : SlR K e B H x f s) (k : ∀ a ∈ f, H' a = H a ∧ B' a = none) : SlR K e B' H' x f s := by
  cases s with
  | none => exact w
  | some s =>
    cases s with
    | no => exact w
    | bor I => exact w
    | own o =>
      obtain ⟨v, h1, h2⟩ := w
      exact ⟨v, h1, OR.keep l _ _ _ h2 k⟩
theorem SlR.foot {x : Option (Option V)} {f : List Addr} {s : Option Slot} (w : SlR K e B H x f s) : ∀ a ∈ f, B a = none ∧ H a ≠ none := by
  cases s with
  | none =>
    have : f = [] := w
    subst this
    intro a ha; cases ha
  | some s =>
    cases s with
    | no =>
      have : f = [] := w
      subst this
      intro a ha; cases ha
    | bor I =>
      obtain ⟨_, _, _, rfl⟩ := w
      intro a ha; cases ha
    | own o =>
      obtain ⟨v, h1, h2⟩ := w
      exact OR.foot _ _ _ h2
/-- a step that changes nothing that stood, and what is lent as it may -/
theorem Rp.grow (r : Rp K e B H σ Γ) (g : Gr e.M B H B' H') (le : Le B' H') (w : BwOk K e.M e.bw B' H') : Rp K e B' H' σ Γ := by
  obtain ⟨F, f1, f2, f3⟩ := r.sl
  refine ⟨le, r.gr.tr g, r.len, w, ⟨F, f1, f2, fun i => (f3 i).keep g.b.le fun a ha => ?_⟩, r.me, fun p hp => g.z _ _ _ (r.lks p hp)⟩
  obtain ⟨h1, h2⟩ := (f3 i).foot a ha
  have n : ¬ e.M a := fun m => (r.me a m).1 (f2 i a ha)
  cases q : H a with
  | none => exact absurd q h2
  | some u => exact ⟨g.h a u q h1 n, g.s a h1 h2⟩
theorem Rp.step (r : Rp K e B H σ Γ) (g : Gr NoM B H B' H') (le : Le B' H') : Rp K e B' H' σ Γ := r.grow g.all le (r.bw.step g)
/-- the value in a slot -/
theorem Rp.val (r : Rp K e B H σ Γ) {i : Nat} {d : D} (h : Γ[i]? = some (.v d)) : ∃ v, σ[i]? = some (some v) ∧ Dq K B v d := by
  obtain ⟨F, f1, f2, f3⟩ := r.sl
  have q := f3 i
  rw [h] at q
  obtain ⟨v, h1, h2⟩ := q
  generalize F i = f at h2
  cases h2 with
  | val h2 => exact ⟨v, h1, h2⟩
theorem Rp.lent (r : Rp K e B H σ Γ) {i : Nat} {I : O → Prop} (h : Γ[i]? = some (.bor I)) : ∃ v, σ[i]? = some (some v) ∧ e.bw = some (v, I) := by
  obtain ⟨F, f1, f2, f3⟩ := r.sl
  have q := f3 i
  rw [h] at q
  exact match q with
    | ⟨v, h1, h2, _⟩ => ⟨v, h1, h2⟩
theorem get_set {α : Type} (l : List α) (i j : Nat) (x : α) : (l.set i x)[j]? = if i = j ∧ j < l.length then some x else l[j]? := by
  by_cases h : i = j
  · subst h
    by_cases q : i < l.length
    · rw [List.getElem?_set_self q, if_pos ⟨rfl, q⟩]
    · rw [if_neg (fun z => q z.2), List.getElem?_eq_none (by simpa using Nat.le_of_not_lt q), List.getElem?_eq_none (Nat.le_of_not_lt q)]
  · rw [List.getElem?_set_ne h, if_neg (fun z => h z.1)]
/-- a step, then a slot is set to something whose objects are new since -/
theorem Rp.growSet (r : Rp K e B H σ Γ) (g : Gr e.M B H B' H') (le : Le B' H') (w : BwOk K e.M e.bw B' H') (i : Nat) {v : V} {o : O} {f : List Addr} (h : OR K B' H' v o f) (hf : ∀ a ∈ f, H a = none) :
    Rp K e B' H' (σ.set i (some v)) (Γ.set i (.own o)) := by
  obtain ⟨F, f1, f2, f3⟩ := r.sl
  have fresh : ∀ a ∈ f, e.H a = none := fun a ha => by
    cases q : e.H a with
    | none => rfl
    | some u => exact absurd (hf a ha) (r.gr.p a (by rw [q]; simp))
  have apart : ∀ j, ∀ a ∈ f, a ∉ F j := fun j a ha hm => ((f3 j).foot a hm).2 (hf a ha)
  have keep : ∀ j, SlR K e B' H' σ[j]? (F j) Γ[j]? := fun j => (f3 j).keep g.b.le fun a ha => by
    obtain ⟨h1, h2⟩ := (f3 j).foot a ha
    have n : ¬ e.M a := fun m => (r.me a m).1 (f2 j a ha)
    cases q : H a with
    | none => exact absurd q h2
    | some u => exact ⟨g.h a u q h1 n, g.s a h1 h2⟩
  refine ⟨le, r.gr.tr g, by simpa using r.len, w, ⟨fun j => if j = i then (if i < Γ.length then f else []) else F j, fun j k a hj hk => ?_, fun j a ha => ?_, fun j => ?_⟩, r.me, fun p hp => g.z _ _ _ (r.lks p hp)⟩
  · by_cases e1 : j = i
    · by_cases e2 : k = i
      · exact e1.trans e2.symm
      · simp only [if_pos e1] at hj
        simp only [if_neg e2] at hk
        split at hj
        · exact absurd hk (apart k a hj)
        · cases hj
    · by_cases e2 : k = i
      · simp only [if_neg e1] at hj
        simp only [if_pos e2] at hk
        split at hk
        · exact absurd hj (apart j a hk)
        · cases hk
      · simp only [if_neg e1] at hj
        simp only [if_neg e2] at hk
        exact f1 j k a hj hk
  · by_cases e1 : j = i
    · simp only [if_pos e1] at ha
      split at ha
      · exact fresh a ha
      · cases ha
    · simp only [if_neg e1] at ha
      exact f2 j a ha
  · rw [get_set, get_set]
    by_cases e1 : j = i
    · subst e1
      by_cases q : j < Γ.length
      · have q' : j < σ.length := by rw [r.len]; exact q
        simp only [q, q', and_self, if_true]
        exact ⟨v, rfl, h⟩
      · have q' : ¬ j < σ.length := by rw [r.len]; exact q
        have z : Γ[j]? = none := List.getElem?_eq_none (Nat.le_of_not_lt q)
        simp only [q, q', and_false, if_false, if_true]
        rw [z]
        exact rfl
    · have n1 : ¬ (i = j ∧ j < Γ.length) := fun z => e1 z.1.symm
      have n2 : ¬ (i = j ∧ j < σ.length) := fun z => e1 z.1.symm
      simp only [if_neg e1, if_neg n1, if_neg n2]
      exact keep j
theorem Rp.setV (r : Rp K e B H σ Γ) (i : Nat) {v : V} {d : D} (h : Dq K B v d) : Rp K e B H (σ.set i (some v)) (Γ.set i (.v d)) :=
  r.growSet Gr.rfl' r.le r.bw i (f := []) (.val h) (fun a ha => by cases ha)
/-- a slot is forgotten -/
theorem Rp.forget (r : Rp K e B H σ Γ) (i : Nat) (x : Option V) : Rp K e B H (σ.set i x) (Γ.set i .no) := by
  obtain ⟨F, f1, f2, f3⟩ := r.sl
  refine ⟨r.le, r.gr, by simpa using r.len, r.bw, ⟨fun j => if j = i then [] else F j, fun j k a hj hk => ?_, fun j a ha => ?_, fun j => ?_⟩, r.me, r.lks⟩
  · by_cases e1 : j = i
    · simp only [if_pos e1] at hj
      cases hj
    · by_cases e2 : k = i
      · simp only [if_pos e2] at hk
        cases hk
      · simp only [if_neg e1] at hj
        simp only [if_neg e2] at hk
        exact f1 j k a hj hk
  · by_cases e1 : j = i
    · simp only [if_pos e1] at ha
      cases ha
    · simp only [if_neg e1] at ha
      exact f2 j a ha
  · rw [get_set, get_set]
    by_cases e1 : j = i
    · subst e1
      by_cases q : j < Γ.length
      · simp only [q, and_self, if_true]
        exact rfl
      · have z : Γ[j]? = none := List.getElem?_eq_none (Nat.le_of_not_lt q)
        simp only [q, and_false, if_false, if_true]
        rw [z]
        exact rfl
    · have n1 : ¬ (i = j ∧ j < Γ.length) := fun z => e1 z.1.symm
      have n2 : ¬ (i = j ∧ j < σ.length) := fun z => e1 z.1.symm
      simp only [if_neg e1, if_neg n1, if_neg n2]
      exact f3 j
end

/-! ### a tree as data -/
mutual
def O.toD : O → D
  | .val d => d
  | .lst os => .lst (O.toDs os)
  | .dic kvs => .dic (O.toDm kvs)
def O.toDs : List O → List D
  | [] => []
  | o :: os => o.toD :: O.toDs os
def O.toDm : List (Key × O) → List (Key × D)
  | [] => []
  | (k, o) :: os => (k, o.toD) :: O.toDm os
end
theorem toDs_vals : ∀ ds : List D, O.toDs (ds.map O.val) = ds
  | [] => rfl
  | d :: ds => by simp [O.toDs, O.toD, toDs_vals ds]
theorem toDm_vals : ∀ ds : List (Key × D), O.toDm (ds.map fun p => (p.1, O.val p.2)) = ds
  | [] => rfl
  | (k, d) :: ds => by simp [O.toDm, O.toD, toDm_vals ds]
theorem toD_ls (ds : List D) : (O.ls ds).toD = .lst ds := by simp [O.ls, O.toD, toDs_vals]
theorem toD_dc (ds : List (Key × D)) : (O.dc ds).toD = .dic ds := by simp [O.dc, O.toD, toDm_vals]
open Classical in
/-- the data's heap with what stands at f -/
noncomputable def frzB (B H : Hp) (f : List Addr) : Hp := fun a => if a ∈ f then H a else B a
section
variable {K : PySem.W.Frag} {B H C : Hp}
mutual
theorem OR.view (sb : Sub B C) : ∀ (o : O) (v : V) (f : List Addr), OR K B H v o f → (∀ a ∈ f, C a = H a) → Dq K C v o.toD
  | .val d, _, _, h, k => by
    cases h with
    | val h1 => exact h1.up sb.le
  | .lst os, _, _, h, k => by
    cases h with
    | lst h1 h2 h3 h4 => exact .lst (.inl ((k _ List.mem_cons_self).trans h2)) (ORL.view sb os _ _ h3 fun b hb => k b (List.mem_cons_of_mem _ hb))
  | .dic os, _, _, h, k => by
    cases h with
    | dic h1 h2 h3 h4 => exact .dic (.inl ((k _ List.mem_cons_self).trans h2)) (ORM.view sb os _ _ h3 fun b hb => k b (List.mem_cons_of_mem _ hb))
theorem ORL.view (sb : Sub B C) : ∀ (os : List O) (vs : List V) (f : List Addr), ORL K B H vs os f → (∀ a ∈ f, C a = H a) → DqL K C vs (O.toDs os)
  | [], _, _, h, _ => by cases h; exact .nil
  | o :: os, _, _, h, k => by
    cases h with
    | cons h1 h2 h3 => exact .cons (OR.view sb o _ _ h1 fun b hb => k b (List.mem_append_left _ hb)) (ORL.view sb os _ _ h2 fun b hb => k b (List.mem_append_right _ hb))
theorem ORM.view (sb : Sub B C) : ∀ (os : List (Key × O)) (vs : List (Key × V)) (f : List Addr), ORM K B H vs os f → (∀ a ∈ f, C a = H a) → DqM K C vs (O.toDm os)
  | [], _, _, h, _ => by cases h; exact .nil
  | (k0, o) :: os, _, _, h, k => by
    cases h with
    | cons h1 h2 h3 => exact .cons (OR.view sb o _ _ h1 fun b hb => k b (List.mem_append_left _ hb)) (ORM.view sb os _ _ h2 fun b hb => k b (List.mem_append_right _ hb))
end
theorem frzB_sub {f : List Addr} (h : ∀ a ∈ f, B a = none) : Sub B (frzB B H f) := fun a u e => by
  unfold frzB
  rw [if_neg fun m => by rw [h a m] at e; cases e]
  exact e
theorem frzB_le {f : List Addr} (le : Le B H) : Le (frzB B H f) H := fun a u e => by
  unfold frzB at e
  split at e
  · exact .inl e
  · exact le a u e
theorem frzB_in {f : List Addr} {a : Addr} (h : a ∈ f) : frzB B H f a = H a := if_pos h
theorem frzB_out {f : List Addr} {a : Addr} (h : a ∉ f) : frzB B H f a = B a := if_neg h
/-- a tree becomes data -/
theorem OR.frz {o : O} {v : V} {f : List Addr} (h : OR K B H v o f) : Dq K (frzB B H f) v o.toD :=
  OR.view (frzB_sub fun a ha => (OR.foot _ _ _ h a ha).1) o v f h fun a ha => frzB_in ha
/-- .. a step, if its objects are new since -/
theorem Gr.frz {M : Addr → Prop} {B0 H0 : Hp} {f : List Addr} (g : Gr M B0 H0 B H) (hf : ∀ a ∈ f, H0 a = none) (hb : ∀ a ∈ f, B a = none) : Gr M B0 H0 (frzB B H f) H :=
  ⟨g.b.tr (frzB_sub hb), g.h, g.z, g.p, fun a h1 h2 => by rw [frzB_out fun m => h2 (hf a m)]; exact g.s a h1 h2⟩
end
end Dn

/-! Dn2: what expressions evaluate to, as data; goal by goal (each rule leaves what is to be shown of the parts). -/
namespace Dn
open PySem L2

/-! ### the best reading of a piece of syntax -/
def bE (X : Cx) (e : Expr) : TE := fun σ H Q => ∃ t, PE X e t ∧ t σ H Q
def bT (X : Cx) (e : Expr) : TT := fun σ H Q => ∃ t, PT X e t ∧ t σ H Q
def bW (X : Cx) (e : Expr) : TT := fun σ H Q => ∃ t, PW X e t ∧ t σ H Q
def bA (X : Cx) (es : List Expr) : TA := fun σ H Q => ∃ t, PA X es t ∧ t σ H Q
theorem be (X : Cx) (e : Expr) : PE X e (bE X e) := ⟨fun pins s σ H Q I ⟨_, h, q⟩ => h.run pins s σ H Q I q⟩
theorem bt (X : Cx) (e : Expr) : PT X e (bT X e) := ⟨fun pins s σ H Q I ⟨_, h, q⟩ => h.run pins s σ H Q I q⟩
theorem bw_ (X : Cx) (e : Expr) : PW X e (bW X e) := ⟨fun wh pins s σ H Q I ⟨_, h, q⟩ => h.run wh pins s σ H Q I q⟩
theorem ba (X : Cx) (es : List Expr) : PA X es (bA X es) := ⟨fun pos pins s σ H Q I ⟨_, h, q⟩ => h.run pos pins s σ H Q I q⟩
/-- the best reading of an operation, of a call -/
def bOp (X : Cx) (f : Value → Value → Sem Value) : R2 := fun x y H Q => ∃ r, OpR X f r ∧ r x y H Q
theorem bop (X : Cx) (f : Value → Value → Sem Value) : OpR X f (bOp X f) := fun pins s σ H x y v u Q I rx ry ⟨_, h, q⟩ => h pins s σ H x y v u Q I rx ry q
def bCl (X : Cx) (f : Value) : List V → Hp → VK → Prop := fun xs H Q => ∃ r, CallR X f r ∧ r xs H Q
theorem bcl (X : Cx) (f : Value) : CallR X f (bCl X f) := fun pins s σ H xs us Q I rx ⟨_, h, q⟩ => h pins s σ H xs us Q I rx q
def bIx (X : Cx) : R2 := fun x y H Q => ∃ r, IxR X r ∧ r x y H Q
theorem bix (X : Cx) : IxR X (bIx X) := fun value slice pins s σ H x y v u Q I rx ry ⟨_, h, q⟩ hs => h value slice pins s σ H x y v u Q I rx ry q hs

/-! ### where a body runs -/
structure Wd where
  P : Program
  w : World
  K : PySem.W.Frag
  mg : Str → Option Value
  base : Heap
  CX : CXT
/-- the levels left, the names, the scope, the names whose cells are the body's own -/
structure Bx where
  k : Nat
  N : List Str
  sc : Scope
  fn : Str → Bool
structure Bc (W : Wd) (X : Cx) (b : Bx) : Prop where
  prog : X.prog = W.P
  wo : X.w = W.w
  kk : X.K = W.K
  mo : X.mg = W.mg
  bas : X.base = W.base
  nn : X.N = b.N
  nd : b.N.Nodup
  sco : X.env.scope = b.sc
  fno : X.fn = b.fn
  calm : X.calm = true
  room : Room b.k X.A
  gd : X.A.guards = some []
  ps : Passes W.CX X fun _ _ _ => False

/-- a step of a body: growth, and what is lent is as it may be -/
structure Go (K : PySem.W.Frag) (e : Ent) (B H B' H' : Hp) : Prop where
  gr : Gr e.M B H B' H'
  le : Le B' H'
  bw : BwOk K e.M e.bw B' H'
section
variable {K : PySem.W.Frag} {e : Ent} {B H B1 H1 B2 H2 : Hp} {σ : St} {Γ : List Slot}
theorem Go.tr (x : Go K e B H B1 H1) (y : Go K e B1 H1 B2 H2) : Go K e B H B2 H2 := ⟨x.gr.tr y.gr, y.le, y.bw⟩
theorem Go.refl (r : Rp K e B H σ Γ) : Go K e B H B H := ⟨Gr.rfl', r.le, r.bw⟩
theorem Go.rp (x : Go K e B H B1 H1) (r : Rp K e B H σ Γ) : Rp K e B1 H1 σ Γ := r.grow x.gr x.le x.bw
theorem Go.of (r : Rp K e B H σ Γ) (g : Gr NoM B H B1 H1) (le : Le B1 H1) : Go K e B H B1 H1 := ⟨g.all, le, r.bw.step g⟩
theorem Go.up (x : Go K e B H B1 H1) {v : V} {d : D} (h : Dq K B v d) : Dq K B1 v d := h.up x.gr.b.le
theorem Go.ups (x : Go K e B H B1 H1) {v : List V} {d : List D} (h : DqL K B v d) : DqL K B1 v d := h.up x.gr.b.le
/-- a tree apart from what is lent stays over a step -/
theorem Go.tree (x : Go K e B H B1 H1) {v : V} {o : O} {f : List Addr} (h : OR K B H v o f) (n : ∀ a ∈ f, ¬ e.M a) : OR K B1 H1 v o f :=
  OR.keep x.gr.b.le _ _ _ h fun a ha => by
    obtain ⟨h1, h2⟩ := OR.foot _ _ _ h a ha
    cases q : H a with
    | none => exact absurd q h2
    | some u => exact ⟨x.gr.h a u q h1 (n a ha), x.gr.s a h1 h2⟩
theorem Rp.nom (r : Rp K e B H σ Γ) {f : List Addr} (h : ∀ a ∈ f, H a = none) : ∀ a ∈ f, ¬ e.M a := fun a ha m => r.gr.p a ((r.me a m).1) (h a ha)
end

/-! ### judgements -/
section
variable (X : Cx)
/-- data -/
def PP (e : Expr) (Γ : List Slot) (P : D → Prop) : Prop :=
  ∀ en σ B H, Rp X.K en B H σ Γ → ∀ Q : VK, (∀ v d B' H', Go X.K en B H B' H' → P d → Dq X.K B' v d → Q v H') → bE X e σ H Q
/-- a tree, to be read at once -/
def PR (e : Expr) (Γ : List Slot) (P : O → Prop) : Prop :=
  ∀ en σ B H, Rp X.K en B H σ Γ → ∀ Q : VK, (∀ v o f B' H', Go X.K en B H B' H' → P o → OR X.K B' H' v o f → (∀ a ∈ f, ¬ en.M a) → Q v H') → bE X e σ H Q
/-- a tree of its own -/
def PO (e : Expr) (Γ : List Slot) (P : O → Prop) : Prop :=
  ∀ en σ B H, Rp X.K en B H σ Γ → ∀ Q : VK, (∀ v o f B' H', Go X.K en B H B' H' → P o → OR X.K B' H' v o f → (∀ a ∈ f, H a = none) → Q v H') → bE X e σ H Q
def PB (e : Expr) (Γ : List Slot) (P : Bool → Prop) : Prop :=
  ∀ en σ B H, Rp X.K en B H σ Γ → ∀ Q : Bool → Hp → Prop, (∀ b B' H', Go X.K en B H B' H' → P b → Q b H') → bT X e σ H Q
/-- a chain of and, or, as a test -/
def PC (e : Expr) (Γ : List Slot) (P : Bool → Prop) : Prop :=
  ∀ en σ B H, Rp X.K en B H σ Γ → ∀ Q : Bool → Hp → Prop, (∀ b B' H', Go X.K en B H B' H' → P b → Q b H') → bW X e σ H Q
def PL (es : List Expr) (Γ : List Slot) (P : List D → Prop) : Prop :=
  ∀ en σ B H, Rp X.K en B H σ Γ → ∀ Q : List V → Hp → Prop, (∀ vs ds B' H', Go X.K en B H B' H' → P ds → DqL X.K B' vs ds → Q vs H') → bA X es σ H Q
end

section
variable {W : Wd} {X : Cx} {bx : Bx} {Γ : List Slot} {a b c e : Expr} {pos : Pos} {P P' : D → Prop} {R R' : O → Prop} {T : Bool → Prop} {K : PySem.W.Frag}
theorem PP.imp (h : PP X e Γ P) (k : ∀ d, P d → P' d) : PP X e Γ P' := fun en σ B H r Q q => h en σ B H r Q fun v d B' H' g p m => q v d B' H' g (k d p) m
theorem PO.imp (h : PO X e Γ R) (k : ∀ d, R d → R' d) : PO X e Γ R' := fun en σ B H r Q q => h en σ B H r Q fun v d f B' H' g p m n => q v d f B' H' g (k d p) m n
theorem PR.imp (h : PR X e Γ R) (k : ∀ d, R d → R' d) : PR X e Γ R' := fun en σ B H r Q q => h en σ B H r Q fun v d f B' H' g p m n => q v d f B' H' g (k d p) m n
theorem PB.imp {T T' : Bool → Prop} (h : PB X e Γ T) (k : ∀ d, T d → T' d) : PB X e Γ T' := fun en σ B H r Q q => h en σ B H r Q fun b B' H' g p => q b B' H' g (k b p)
theorem PP.po (h : PP X e Γ fun d => R (.val d)) : PO X e Γ R := fun en σ B H r Q q => h en σ B H r Q fun v d B' H' g p m =>
  q v (.val d) [] B' H' g p (.val m) fun a ha => by cases ha
theorem PO.pr (h : PO X e Γ R) : PR X e Γ R := fun en σ B H r Q q => h en σ B H r Q fun v o f B' H' g p m n => q v o f B' H' g p m (r.nom n)
theorem PP.pr (h : PP X e Γ fun d => R (.val d)) : PR X e Γ R := h.po.pr
/-- a tree of its own becomes data -/
theorem PO.pp (h : PO X e Γ fun o => P o.toD) : PP X e Γ P := fun en σ B H r Q q => h en σ B H r Q fun v o f B' H' g p m n => by
  have hb : ∀ a ∈ f, B' a = none := fun a ha => (OR.foot _ _ _ m a ha).1
  refine q v o.toD (frzB B' H' f) H' ⟨g.gr.frz n hb, frzB_le g.le, ?_⟩ p m.frz
  have w := g.bw
  unfold BwOk at w ⊢
  cases hbw : en.bw with
  | none => trivial
  | some z =>
    rw [hbw] at w
    obtain ⟨v', I'⟩ := z
    obtain ⟨o', f', i, r', mm⟩ := w
    refine ⟨o', f', i, OR.keep (frzB_sub hb).le _ _ _ r' fun a ha => ⟨rfl, ?_⟩, mm⟩
    rw [frzB_out fun hf => r.nom n a hf (mm a ha)]
    exact (OR.foot _ _ _ r' a ha).1

/-! ### names, constants -/
theorem pp_var (hb : Bc W X bx) (i : Nat) {d : D} {x : Str} (h : Γ[i]? = some (.v d)) (p : P d) (hN : bx.N[i]? = some x := by rfl)
    (hv : Vis bx.sc x := by first | exact Or.inl rfl | exact Or.inr (Or.inl rfl) | exact Or.inr (Or.inr rfl))
    (hd : (x == ("__debug__" : Str)) = false := by decide) (hcd : (x == ("__classdict__" : Str)) = false := by decide) : PP X (.Name x pos) Γ P := fun en σ B H r Q q => by
  obtain ⟨v, h1, h2⟩ := r.val h
  exact ⟨_, pe_var (by rw [hb.nn]; exact hN) (by rw [hb.sco]; exact hv) hd hcd, v, h1, q v d B H (.refl r) p h2⟩
theorem pr_var (hb : Bc W X bx) (i : Nat) {o : O} {x : Str} (h : Γ[i]? = some (.own o)) (p : R o) (hN : bx.N[i]? = some x := by rfl)
    (hv : Vis bx.sc x := by first | exact Or.inl rfl | exact Or.inr (Or.inl rfl) | exact Or.inr (Or.inr rfl))
    (hd : (x == ("__debug__" : Str)) = false := by decide) (hcd : (x == ("__classdict__" : Str)) = false := by decide) : PR X (.Name x pos) Γ R := fun en σ B H r Q q => by
  obtain ⟨F, f1, f2, f3⟩ := r.sl
  have w := f3 i
  rw [h] at w
  obtain ⟨v, h1, h2⟩ := w
  exact ⟨_, pe_var (by rw [hb.nn]; exact hN) (by rw [hb.sco]; exact hv) hd hcd, v, h1, q v o _ B H (.refl r) p h2 fun a ha m => (r.me a m).1 (f2 i a ha)⟩
theorem pp_c {v : V} {d : D} (h : PE X e (tC v)) (hd : ∀ B, Dq X.K B v d) (p : P d) : PP X e Γ P := fun en σ B H r Q q => ⟨_, h, q v d B H (.refl r) p (hd B)⟩
theorem pp_int {i : Int} {j} (p : P (.int i)) : PP X (.Constant (.int i) j pos) Γ P := pp_c pe_int (fun _ => .int i) p
theorem pp_bl {i : Bool} {j} (p : P (.bl i)) : PP X (.Constant (.bool i) j pos) Γ P := pp_c pe_bl (fun _ => .bl i) p
theorem pp_str {i : Str} {j} (p : P (.str i)) : PP X (.Constant (.str i) j pos) Γ P := pp_c pe_str (fun _ => .str i) p
theorem pp_non {j} (p : P .non) : PP X (.Constant .none j pos) Γ P := pp_c pe_non (fun _ => .non) p

/-! ### operations on data -/
def R2Ok (K : PySem.W.Frag) (r : R2) (x y : D) (P : D → Prop) : Prop :=
  ∀ B H v w, Le B H → Dq K B v x → Dq K B w y → ∀ Q : VK, (∀ u d B' H', Gr NoM B H B' H' → Le B' H' → P d → Dq K B' u d → Q u H') → r v w H Q
/-- .. whose answer is a bool and which changes nothing -/
def R2B (K : PySem.W.Frag) (r : R2) (x y : D) (T : Bool → Prop) : Prop :=
  ∀ H v w, Dq K H v x → Dq K H w y → ∀ Q : VK, (∀ k, T k → Q (.bl k) H) → r v w H Q
def RcOk (K : PySem.W.Frag) (r : List V → Hp → VK → Prop) (xs : List D) (P : D → Prop) : Prop :=
  ∀ B H vs, Le B H → DqL K B vs xs → ∀ Q : VK, (∀ u d B' H', Gr NoM B H B' H' → Le B' H' → P d → Dq K B' u d → Q u H') → r vs H Q
/-- a op b, x.y of data -/
def Op (X : Cx) (op : Operator) (x y : D) (P : D → Prop) : Prop := R2Ok X.K (bOp X (binaryOp op)) x y P
def Cmp (X : Cx) (op : CmpOp) (x y : D) (T : Bool → Prop) : Prop := R2B X.K (bOp X (compareOp op)) x y T
def Ix (X : Cx) (x y : D) (P : D → Prop) : Prop := R2Ok X.K (bIx X) x y P
def Cl (X : Cx) (f : Value) (xs : List D) (P : D → Prop) : Prop := RcOk X.K (bCl X f) xs P
theorem op_of {op : Operator} {r : R2} {x y : D} (h : OpR X (binaryOp op) r) (k : R2Ok X.K r x y P) : Op X op x y P := fun B H v w l m n Q q => ⟨r, h, k B H v w l m n Q q⟩
theorem cmp_of {op : CmpOp} {r : R2} {x y : D} (h : OpR X (compareOp op) r) (k : R2B X.K r x y T) : Cmp X op x y T := fun H v w m n Q q => ⟨r, h, k H v w m n Q q⟩
theorem ix_of {r : R2} {x y : D} (h : IxR X r) (k : R2Ok X.K r x y P) : Ix X x y P := fun B H v w l m n Q q => ⟨r, h, k B H v w l m n Q q⟩
theorem cl_of {f : Value} {r : List V → Hp → VK → Prop} {xs : List D} (h : CallR X f r) (k : RcOk X.K r xs P) : Cl X f xs P := fun B H v l m Q q => ⟨r, h, k B H v l m Q q⟩
theorem ev_op {r : R2} {en : Ent} {σ : St} {B H : Hp} {Q : VK} (rp : Rp X.K en B H σ Γ) (h : PP X a Γ fun x => PP X b Γ fun y => R2Ok X.K r x y P)
    (q : ∀ v d B' H', Go X.K en B H B' H' → P d → Dq X.K B' v d → Q v H') : tOp r (bE X a) (bE X b) σ H Q :=
  h en σ B H rp _ fun v x B1 H1 g1 px mx => px en σ B1 H1 (g1.rp rp) _ fun w y B2 H2 g2 py my =>
    py B2 H2 v w g2.le (g2.up mx) my Q fun u d B3 H3 gr le pd md => q u d B3 H3 (g1.tr (g2.tr (.of (g2.rp (g1.rp rp)) gr le))) pd md
theorem pp_op {op : Operator} (h : PP X a Γ fun x => PP X b Γ fun y => Op X op x y P) : PP X (.BinOp a op b pos) Γ P := fun en σ B H rp Q q =>
  ⟨_, pe_op (bop X _) (be X a) (be X b), ev_op rp h q⟩
theorem pp_ix (h : PP X a Γ fun x => PP X b Γ fun y => Ix X x y P) (hs : PlainIx b := by intro _ _; rfl) : PP X (.Subscript a b pos) Γ P := fun en σ B H rp Q q =>
  ⟨_, pe_ix (bix X) (be X a) (be X b) hs, ev_op rp h q⟩
/-- a comparison of two that are read -/
theorem ev_cmp {r : R2} {en : Ent} {σ : St} {B H : Hp} {Q : VK} (rp : Rp X.K en B H σ Γ) (h : PR X a Γ fun x => PR X b Γ fun y => R2B X.K r x.toD y.toD T)
    (q : ∀ k B' H', Go X.K en B H B' H' → T k → Q (.bl k) H') : tOp r (bE X a) (bE X b) σ H Q :=
  h en σ B H rp _ fun v x f B1 H1 g1 px mx nx => px en σ B1 H1 (g1.rp rp) _ fun w y g B2 H2 g2 py my ny => by
    have m1 := (g2.tree mx nx).frz
    have m2 := my.frz
    exact py H2 v w (m1.up (frzB_le g2.le)) (m2.up (frzB_le g2.le)) Q fun k t => q k B2 H2 (g1.tr g2) t
theorem pp_cmp {op : CmpOp} (h : PR X a Γ fun x => PR X b Γ fun y => Cmp X op x.toD y.toD fun k => P (.bl k)) (hm : behindInMarks op b = false := by first | exact nomark _ | with_unfolding_all rfl) : PP X (.Compare a [op] [b] pos) Γ P := fun en σ B H rp Q q =>
  ⟨_, pe_cmpR (bop X _) (be X a) (be X b) hm, ev_cmp rp h fun k B' H' g t => q _ _ B' H' g t (.bl k)⟩
theorem pb_cmp {op : CmpOp} (h : PR X a Γ fun x => PR X b Γ fun y => Cmp X op x.toD y.toD T) (hm : behindInMarks op b = false := by first | exact nomark _ | with_unfolding_all rfl) : PB X (.Compare a [op] [b] pos) Γ T := fun en σ B H rp Q q =>
  ⟨_, pt_cmpR (bop X _) (be X a) (be X b) hm, ev_cmp rp h fun k B' H' g t => ⟨k, rfl, q k B' H' g t⟩⟩
theorem ev_chain {r r' : R2} {en : Ent} {σ : St} {B H : Hp} {Q : VK} (rp : Rp X.K en B H σ Γ)
    (h : PP X a Γ fun x => PP X b Γ fun y => R2B X.K r x y fun k => if k = true then PP X c Γ fun z => R2B X.K r' y z T else T false)
    (q : ∀ k B' H', Go X.K en B H B' H' → T k → Q (.bl k) H') : tChain r r' (bE X a) (bE X b) (bE X c) σ H Q :=
  h en σ B H rp _ fun v x B1 H1 g1 px mx => px en σ B1 H1 (g1.rp rp) _ fun w y B2 H2 g2 py my =>
    py H2 v w ((g2.up mx).up g2.le) (my.up g2.le) _ fun k t => by
      refine ⟨k, rfl, ?_⟩
      cases k with
      | false => exact q false B2 H2 (g1.tr g2) t
      | true => exact t en σ B2 H2 (g2.rp (g1.rp rp)) _ fun u z B3 H3 g3 pz mz => pz H3 w u ((g3.up my).up g3.le) (mz.up g3.le) Q fun k' t' => q k' B3 H3 (g1.tr (g2.tr g3)) t'
theorem pb_chain {op op' : CmpOp} (h : PP X a Γ fun x => PP X b Γ fun y => Cmp X op x y fun k => if k = true then PP X c Γ fun z => Cmp X op' y z T else T false)
    (hm : lastMarks [op, op'] [b, c] = false := by with_unfolding_all rfl) : PB X (.Compare a [op, op'] [b, c] pos) Γ T := fun en σ B H rp Q q =>
  ⟨_, pt_chain (bop X _) (bop X _) (be X a) (be X b) (be X c) hm, ev_chain rp h fun k B' H' g t => ⟨k, rfl, q k B' H' g t⟩⟩
theorem pp_chain {op op' : CmpOp} (h : PP X a Γ fun x => PP X b Γ fun y => Cmp X op x y fun k => if k = true then PP X c Γ fun z => Cmp X op' y z fun k => P (.bl k) else P (.bl false))
    (hm : lastMarks [op, op'] [b, c] = false := by with_unfolding_all rfl) : PP X (.Compare a [op, op'] [b, c] pos) Γ P := fun en σ B H rp Q q =>
  ⟨_, pe_chain (bop X _) (bop X _) (be X a) (be X b) (be X c) hm, ev_chain rp h fun k B' H' g t => q _ _ B' H' g t (.bl k)⟩

/-! ints -/
theorem rI0_ok {g : Int → Int → V} {i j : Int} {d : D} (h : ∀ B, Dq K B (g i j) d) (p : P d) : R2Ok K (rI0 g) (.int i) (.int j) P := fun B H v w le hv hw Q q => by
  cases hv
  cases hw
  exact ⟨i, j, rfl, rfl, q _ d B H Gr.rfl' le p (h B)⟩
theorem rI_ok {C : Int → Int → Prop} {g : Int → Int → V} {i j : Int} {d : D} (c : C i j) (h : ∀ B, Dq K B (g i j) d) (p : P d) : R2Ok K (rI C g) (.int i) (.int j) P := fun B H v w le hv hw Q q => by
  cases hv
  cases hw
  exact ⟨i, j, rfl, rfl, c, q _ d B H Gr.rfl' le p (h B)⟩
theorem o_add {i j : Int} (p : P (.int (i + j))) : Op X .Add (.int i) (.int j) P := op_of op_add (rI0_ok (fun _ => .int _) p)
theorem o_sub {i j : Int} (p : P (.int (i - j))) : Op X .Sub (.int i) (.int j) P := op_of op_sub (rI0_ok (fun _ => .int _) p)
theorem o_mul {i j : Int} (c : CMul i j) (p : P (.int (i * j))) : Op X .Mult (.int i) (.int j) P := op_of op_mul (rI_ok c (fun _ => .int _) p)
theorem o_fdiv {i j : Int} (c : CDiv i j) (p : P (.int (i / j))) : Op X .FloorDiv (.int i) (.int j) P := op_of op_fdiv (rI_ok c (fun _ => .int _) p)
theorem o_mod {i j : Int} (c : 0 < j) (p : P (.int (i % j))) : Op X .Mod (.int i) (.int j) P := op_of op_mod (rI_ok (C := fun _ j => 0 < j) c (fun _ => .int _) p)
theorem o_pow {i j : Int} (c : CPow i j) (p : P (.int (i ^ j.toNat))) : Op X .Pow (.int i) (.int j) P := op_of op_pow (rI_ok c (fun _ => .int _) p)
theorem pp_neg (h : PP X a Γ fun x => ∃ i, x = .int i ∧ P (.int (-i))) : PP X (.UnaryOp .USub a pos) Γ P := fun en σ B H rp Q q =>
  ⟨_, pe_un un_neg (be X a), h en σ B H rp _ fun v x B1 H1 g1 px mx => by
    obtain ⟨i, e, p⟩ := px
    subst e
    cases mx
    exact ⟨i, rfl, q _ _ B1 H1 g1 p (.int _)⟩⟩
theorem cI {g : Int → Int → Bool} {i j : Int} (t : T (g i j)) : R2B K (rI0 fun i j => .bl (g i j)) (.int i) (.int j) T := fun H v w hv hw Q q => by
  cases hv
  cases hw
  exact ⟨i, j, rfl, rfl, q _ t⟩
theorem c_lt {i j : Int} (t : T (decide (i < j))) : Cmp X .Lt (.int i) (.int j) T := cmp_of op_lt (cI (g := fun i j => decide (i < j)) t)
theorem c_le {i j : Int} (t : T (decide (i ≤ j))) : Cmp X .LtE (.int i) (.int j) T := cmp_of op_le (cI (g := fun i j => decide (i ≤ j)) t)
theorem c_gt {i j : Int} (t : T (decide (j < i))) : Cmp X .Gt (.int i) (.int j) T := cmp_of op_gt (cI (g := fun i j => decide (j < i)) t)
theorem c_ge {i j : Int} (t : T (decide (j ≤ i))) : Cmp X .GtE (.int i) (.int j) T := cmp_of op_ge (cI (g := fun i j => decide (j ≤ i)) t)

/-! is None -/
def isNon : D → Bool
  | .non => true
  | _ => false
theorem non_dq {B : Hp} {v : V} {d : D} (h : Dq K B v d) : decide (v = .non) = isNon d := by
  cases h <;> simp [isNon]
theorem c_isN {x : D} (t : T (isNon x)) : Cmp X .Is x .non T := cmp_of op_isN fun H v' w' hv hw Q q => by
  cases hw
  refine ⟨rfl, ?_⟩
  rw [non_dq hv]
  exact q _ t
theorem c_notN {x : D} (t : T (!isNon x)) : Cmp X .IsNot x .non T := cmp_of op_notN fun H v' w' hv hw Q q => by
  cases hw
  refine ⟨rfl, ?_⟩
  rw [non_dq hv]
  exact q _ t

/-! ### tests -/
theorem pb_val (h : PP X e Γ fun x => ∃ k, x = .bl k ∧ T k) (he : ∀ whole, isTrue e X.env whole = (do let v ← whole; standAt e.pos; holding [v] (truthy v)) := by intro _; rfl) : PB X e Γ T := fun en σ B H rp Q q =>
  ⟨_, pt_val (be X e) he, h en σ B H rp _ fun v d B' H' g p m => by
    obtain ⟨k, e, t⟩ := p
    subst e
    cases m
    exact ⟨k, rfl, q k B' H' g t⟩⟩
theorem pb_not (h : PB X a Γ fun k => T (!k)) : PB X (.UnaryOp .Not a pos) Γ T := fun en σ B H rp Q q => ⟨_, pt_not (bt X a), h en σ B H rp _ fun b B' H' g p => q _ B' H' g p⟩
theorem pc_a1 (h : PB X a Γ T) : PC X (.BoolOp .And [a] pos) Γ T := fun en σ B H rp Q q => ⟨_, pw_and1 (bt X a), h en σ B H rp Q q⟩
theorem pc_o1 (h : PB X a Γ T) : PC X (.BoolOp .Or [a] pos) Γ T := fun en σ B H rp Q q => ⟨_, pw_or1 (bt X a), h en σ B H rp Q q⟩
theorem pc_a {rest : List Expr} (h : PB X a Γ fun k => if k = true then PC X (.BoolOp .And (b :: rest) pos) Γ T else T false) : PC X (.BoolOp .And (a :: b :: rest) pos) Γ T := fun en σ B H rp Q q =>
  ⟨_, pw_and (bt X a) (bw_ X _), h en σ B H rp _ fun c B1 H1 g1 t => by
    cases c with
    | false => exact q false B1 H1 g1 t
    | true => exact t en σ B1 H1 (g1.rp rp) Q fun c2 B2 H2 g2 t2 => q c2 B2 H2 (g1.tr g2) t2⟩
theorem pc_o {rest : List Expr} (h : PB X a Γ fun k => if k = true then T true else PC X (.BoolOp .Or (b :: rest) pos) Γ T) : PC X (.BoolOp .Or (a :: b :: rest) pos) Γ T := fun en σ B H rp Q q =>
  ⟨_, pw_or (bt X a) (bw_ X _), h en σ B H rp _ fun c B1 H1 g1 t => by
    cases c with
    | true => exact q true B1 H1 g1 t
    | false => exact t en σ B1 H1 (g1.rp rp) Q fun c2 B2 H2 g2 t2 => q c2 B2 H2 (g1.tr g2) t2⟩
theorem pb_c (h : PC X e Γ T) : PB X e Γ T := fun en σ B H rp Q q => ⟨_, (bw_ X e).pt, h en σ B H rp Q q⟩
/-- .. as values, bools -/
theorem pp_one {op} (h : PP X a Γ P) : PP X (.BoolOp op [a] pos) Γ P := fun en σ B H rp Q q => ⟨_, pe_one (be X a), h en σ B H rp Q q⟩
theorem pp_and {rest : List Expr} (h : PP X a Γ fun x => ∃ k, x = .bl k ∧ if k = true then PP X (.BoolOp .And (b :: rest) pos) Γ P else P (.bl false)) : PP X (.BoolOp .And (a :: b :: rest) pos) Γ P := fun en σ B H rp Q q =>
  ⟨_, pe_and (be X a) (be X _), h en σ B H rp _ fun v d B1 H1 g1 p m1 => by
    obtain ⟨k, e, p⟩ := p
    subst e
    cases m1
    refine ⟨k, rfl, ?_⟩
    cases k with
    | false => exact q _ _ B1 H1 g1 p (.bl false)
    | true => exact p en σ B1 H1 (g1.rp rp) Q fun v2 d2 B2 H2 g2 e2 m2 => q v2 d2 B2 H2 (g1.tr g2) e2 m2⟩
theorem pp_or {rest : List Expr} (h : PP X a Γ fun x => ∃ k, x = .bl k ∧ if k = true then P (.bl true) else PP X (.BoolOp .Or (b :: rest) pos) Γ P) : PP X (.BoolOp .Or (a :: b :: rest) pos) Γ P := fun en σ B H rp Q q =>
  ⟨_, pe_or (be X a) (be X _), h en σ B H rp _ fun v d B1 H1 g1 p m1 => by
    obtain ⟨k, e, p⟩ := p
    subst e
    cases m1
    refine ⟨k, rfl, ?_⟩
    cases k with
    | true => exact q _ _ B1 H1 g1 p (.bl true)
    | false => exact p en σ B1 H1 (g1.rp rp) Q fun v2 d2 B2 H2 g2 e2 m2 => q v2 d2 B2 H2 (g1.tr g2) e2 m2⟩
theorem pp_not (h : PP X a Γ fun x => ∃ k, x = .bl k ∧ P (.bl (!k))) : PP X (.UnaryOp .Not a pos) Γ P := fun en σ B H rp Q q =>
  ⟨_, pe_not (be X a), h en σ B H rp _ fun v d B1 H1 g1 p m1 => by
    obtain ⟨k, e, p⟩ := p
    subst e
    cases m1
    exact ⟨k, rfl, q _ _ B1 H1 g1 p (.bl _)⟩⟩
/-- a if t else b -/
theorem pp_if (h : PB X c Γ fun k => if k = true then PP X a Γ P else PP X b Γ P) : PP X (.IfExp c a b pos) Γ P := fun en σ B H rp Q q =>
  ⟨_, pe_ifExp (bt X c) (be X a) (be X b), h en σ B H rp _ fun m B1 H1 g1 t => by
    cases m with
    | true =>
      rw [if_pos rfl]
      exact t en σ B1 H1 (g1.rp rp) Q fun v2 d2 B2 H2 g2 e2 m2 => q v2 d2 B2 H2 (g1.tr g2) e2 m2
    | false =>
      rw [if_neg Bool.false_ne_true]
      exact t en σ B1 H1 (g1.rp rp) Q fun v2 d2 B2 H2 g2 e2 m2 => q v2 d2 B2 H2 (g1.tr g2) e2 m2⟩

/-! ### argument lists, displays -/
theorem pl_nil {L : List D → Prop} (p : L []) : PL X [] Γ L := fun en σ B H rp Q q => ⟨_, pa_nil, q [] [] B H (.refl rp) p .nil⟩
theorem pl_cons {es : List Expr} {L : List D → Prop} (h : PP X e Γ fun d => PL X es Γ fun ds => L (d :: ds)) (hs : starEach (e :: es) X.env = (false, eval e X.env) :: starEach es X.env := by rfl) : PL X (e :: es) Γ L := fun en σ B H rp Q q =>
  ⟨_, pa_cons (be X e) (ba X es) hs, h en σ B H rp _ fun v d B1 H1 g1 p m => p en σ B1 H1 (g1.rp rp) _ fun vs ds B2 H2 g2 p2 m2 => q _ _ B2 H2 (g1.tr g2) p2 (.cons (g2.up m) m2)⟩
theorem Dq.newTup {B H : Hp} {p : Addr} {xs : List V} {ds : List D} (le : Le B H) (n : H p = none) (h : DqL K B xs ds) : Dq K (upd B p (.tup xs)) (.ref p) (.tup ds) :=
  .tup (.inl (.inl upd_same)) (h.up (Gr.newB (M := NoM) le n).b.le)
theorem Dq.newLst {B H : Hp} {p : Addr} {xs : List V} {ds : List D} (le : Le B H) (n : H p = none) (h : DqL K B xs ds) : Dq K (upd B p (.lst xs)) (.ref p) (.lst ds) :=
  .lst (.inl upd_same) (h.up (Gr.newB (M := NoM) le n).b.le)
theorem Dq.newDic {B H : Hp} {p : Addr} {xs : List (Key × V)} {ds : List (Key × D)} (le : Le B H) (n : H p = none) (h : DqM K B xs ds) : Dq K (upd B p (.dK xs)) (.ref p) (.dic ds) :=
  .dic (.inl upd_same) (h.up (Gr.newB (M := NoM) le n).b.le)
theorem pp_tup {es : List Expr} {x1} (h : PL X es Γ fun ds => ds.length ≤ sizeLine ∧ P (.tup ds)) : PP X (.Tuple es x1 pos) Γ P := fun en σ B H rp Q q =>
  ⟨_, pe_tup (ba X es), h en σ B H rp _ fun vs ds B1 H1 g1 p m => ⟨by rw [m.length]; exact p.1, fun a n =>
    q _ _ _ _ (g1.tr (.of (g1.rp rp) (Gr.newB g1.le n) (g1.le.newB n))) p.2 (Dq.newTup g1.le n m)⟩⟩
/-- [..] of data: a list of its own -/
theorem po_lst {es : List Expr} (h : PL X es Γ fun ds => ds.length ≤ sizeLine ∧ R (O.ls ds)) : PO X (.List es pos) Γ R := fun en σ B H rp Q q =>
  ⟨_, pe_lst (ba X es), h en σ B H rp _ fun vs ds B1 H1 g1 p m => ⟨by rw [m.length]; exact p.1, fun a n =>
    q _ _ [a] B1 _ (g1.tr (.of (g1.rp rp) (Gr.new n) (g1.le.new n))) p.2 (.lst (none_of_le g1.le n) upd_same (ORL.vals m) (by simp)) fun b hb => by
      have e : b = a := by simpa using hb
      subst e
      cases z : H b with
      | none => rfl
      | some u => exact absurd n (g1.gr.p b (by rw [z]; simp))⟩⟩

/-! ### calls of built-ins -/
theorem ev_cl {r : List V → Hp → VK → Prop} {es : List Expr} {en : Ent} {σ : St} {B H : Hp} {Q : VK} (rp : Rp X.K en B H σ Γ) (h : PL X es Γ fun ds => RcOk X.K r ds P)
    (q : ∀ v d B' H', Go X.K en B H B' H' → P d → Dq X.K B' v d → Q v H') : tCB r (bA X es) σ H Q :=
  h en σ B H rp _ fun vs ds B1 H1 g1 p m => p B1 H1 vs g1.le m Q fun u d B2 H2 gr le pd md => q u d B2 H2 (g1.tr (.of (g1.rp rp) gr le)) pd md
theorem pp_cl (hb : Bc W X bx) {es : List Expr} {x : Str} {id : String} {p : Pos} (h : PL X (e :: es) Γ fun ds => Cl X (.builtin id) ds P) (hv : bootBuiltins x = some (.builtin id) := by rfl)
    (hg : bx.sc.names.lookup x = some .globalImplicit := by rfl) (hm : W.mg x = none := by assumption) (hn : x ≠ "__name__" := by decide) (hdb : (x == ("__debug__" : Str)) = false := by decide)
    (he : starEach (e :: es) X.env = (false, eval e X.env) :: starEach es X.env := by rfl) (hpl : (backTo pos (starEach es X.env)).any (·.1) = false := by rfl) : PP X (.Call (.Name x p) (e :: es) [] pos) Γ P := fun en σ B H rp Q q =>
  ⟨_, pe_callB (bcl X _) (by show X.env.scope.names.lookup x = _; rw [hb.sco]; exact hg) (by rw [hb.mo]; exact hm) hv (ba X _) hn hdb he hpl, ev_cl rp h q⟩
theorem pp_ty (hb : Bc W X bx) {es : List Expr} {x : Str} {id : String} {p : Pos} (h : PL X (e :: es) Γ fun ds => Cl X (.type id) ds P) (hv : bootBuiltins x = some (.type id) := by rfl)
    (hg : bx.sc.names.lookup x = some .globalImplicit := by rfl) (hm : W.mg x = none := by assumption) (hn : x ≠ "__name__" := by decide) (hdb : (x == ("__debug__" : Str)) = false := by decide)
    (he : starEach (e :: es) X.env = (false, eval e X.env) :: starEach es X.env := by rfl) (hpl : (backTo pos (starEach es X.env)).any (·.1) = false := by rfl) : PP X (.Call (.Name x p) (e :: es) [] pos) Γ P := fun en σ B H rp Q q =>
  ⟨_, pe_callTy (bcl X _) (by show X.env.scope.names.lookup x = _; rw [hb.sco]; exact hg) (by rw [hb.mo]; exact hm) hv (ba X _) hn hdb he hpl, ev_cl rp h q⟩
end
end Dn

/-! Dn3: what is walked, targets, list and dict comprehensions; defs and their calls. -/
namespace Dn
open PySem L2 RZ

/-! ### what is walked -/
def LkOk (e : Ent) (H : Hp) : Prop := ∀ p ∈ e.lk, H p.1 = some (.frz p.2.1 p.2.2)
/-- from the data B on, J yields ds -/
structure ItOk (K : PySem.W.Frag) (J : It) (e : Ent) (B0 : Hp) (ds : List D) : Prop where
  go : ∀ i B H, Sub B0 B → Le B H → LkOk e H → i < ds.length → J.go i H
  stop : ∀ i B H, Sub B0 B → Le B H → LkOk e H → ds.length ≤ i → i ≤ ds.length → J.stop i H
  yld : ∀ i d B H x H', Sub B0 B → Le B H → LkOk e H → ds[i]? = some d → J.yld i H x H' → ∃ B', Gr NoM B H B' H' ∧ Le B' H' ∧ Dq K B' x d
def bI (X : Cx) (tg iter : Expr) : TI := fun σ H R => ∃ wi, PI X tg iter wi ∧ wi σ H R
theorem bi (X : Cx) (tg iter : Expr) : PI X tg iter (bI X tg iter) := ⟨fun pins s σ H R I ⟨_, h, q⟩ => h.run pins s σ H R I q⟩
def PIt (X : Cx) (tg iter : Expr) (Γ : List Slot) (L : List D → Prop) : Prop :=
  ∀ en σ B H, Rp X.K en B H σ Γ → ∀ R : It → Hp → Prop, (∀ J ds B' H', Go X.K en B H B' H' → L ds → ItOk X.K J en B' ds → R J H') → bI X tg iter σ H R

section
variable {W : Wd} {X : Cx} {bx : Bx} {Γ : List Slot} {tg a b c e iter : Expr} {pos : Pos} {L : List D → Prop} {K : PySem.W.Frag} {en : Ent} {B H : Hp}
theorem DqL.uniq {xs : List V} {ds : List D} (h : DqL K B xs ds) {i : Nat} {x : V} {d : D} (e1 : xs[i]? = some x) (e2 : ds[i]? = some d) : Dq K B x d := by
  obtain ⟨v, h1, h2⟩ := h.get e2
  rw [e1] at h1
  cases h1
  exact h2
theorem itl_ok {p : Addr} {xs : List V} {ds : List D} (h : SqL K B p xs) (m : DqL K B xs ds) : ItOk K (Itl K p) en B ds where
  go := fun i B' H sb le _ hi => by
    have hx : i < xs.length := by rw [m.length]; exact hi
    exact ⟨xs, xs[i], le.sqL (sb.le.sqL h), by simp [hx]⟩
  stop := fun i B' H sb le _ hi _ => ⟨xs, le.sqL (sb.le.sqL h), by rw [m.length]; exact hi⟩
  yld := fun i d B' H x H' sb le _ hd y => by
    obtain ⟨rfl, y⟩ := y
    exact ⟨B', Gr.rfl', le, (m.uniq (y xs (le.sqL (sb.le.sqL h))) hd).up sb.le⟩
theorem itt_ok {p : Addr} {xs : List V} {ds : List D} (h : SqT K B p xs) (m : DqL K B xs ds) : ItOk K (Itt K p) en B ds where
  go := fun i B' H sb le _ hi => by
    have hx : i < xs.length := by rw [m.length]; exact hi
    exact ⟨xs, xs[i], le.sqT (sb.le.sqT h), by simp [hx]⟩
  stop := fun i B' H sb le _ hi _ => ⟨xs, le.sqT (sb.le.sqT h), by rw [m.length]; exact hi⟩
  yld := fun i d B' H x H' sb le _ hd y => by
    obtain ⟨rfl, y⟩ := y
    exact ⟨B', Gr.rfl', le, (m.uniq (y xs (le.sqT (sb.le.sqT h))) hd).up sb.le⟩
/-- lo, lo + 1, .. -/
def rngD (lo : Int) (n : Nat) : List D := (List.range n).map fun (i : Nat) => .int (lo + i)
theorem rngD_get {lo : Int} {n i : Nat} {d : D} (h : (rngD lo n)[i]? = some d) : i < n ∧ d = .int (lo + i) := by
  unfold rngD at h
  rw [List.getElem?_map] at h
  cases q : (List.range n)[i]? with
  | none => rw [q] at h; cases h
  | some j =>
    rw [q] at h
    obtain ⟨h1, h2⟩ := List.getElem?_eq_some_iff.mp q
    have : j = i := by simpa using h2.symm
    subst this
    cases h
    exact ⟨by simpa using h1, rfl⟩
theorem rngD_len (lo : Int) (n : Nat) : (rngD lo n).length = n := by simp [rngD]
theorem itr_ok {lo : Int} {n : Nat} : ItOk K (Itr lo n) en B (rngD lo n) where
  go := fun i B' H _ _ _ hi => by rw [rngD_len] at hi; exact hi
  stop := fun i B' H _ _ _ hi _ => by rw [rngD_len] at hi; exact hi
  yld := fun i d B' H x H' sb le _ hd y => by
    obtain ⟨rfl, rfl⟩ := y
    obtain ⟨_, rfl⟩ := rngD_get hd
    exact ⟨B', Gr.rfl', le, .int _⟩
/-- a new pair -/
theorem newPair {B H : Hp} {T : Addr} {x y : V} {d e : D} (le : Le B H) (n : H T = none) (hx : Dq K B x d) (hy : Dq K B y e) :
    ∃ B', Gr NoM B H B' (upd H T (.tup [x, y])) ∧ Le B' (upd H T (.tup [x, y])) ∧ Dq K B' (.ref T) (.tup [d, e]) :=
  ⟨_, Gr.newB le n, le.newB n, Dq.newTup le n (.cons hx (.cons hy .nil))⟩
def zipD (ds es : List D) : List D := List.zipWith (fun d e => .tup [d, e]) ds es
theorem zipD_get {ds es : List D} {i : Nat} {z : D} (h : (zipD ds es)[i]? = some z) : ∃ d e, ds[i]? = some d ∧ es[i]? = some e ∧ z = .tup [d, e] := by
  unfold zipD at h
  rw [List.getElem?_zipWith] at h
  cases q : ds[i]? with
  | none => rw [q] at h; cases h
  | some d =>
    cases q2 : es[i]? with
    | none => rw [q, q2] at h; cases h
    | some e =>
      rw [q, q2] at h
      cases h
      exact ⟨d, e, rfl, rfl, rfl⟩
theorem itz_ok {p q : Addr} {xs ys : List V} {ds es : List D} (h : SqL K B p xs) (m : DqL K B xs ds) (h2 : SqL K B q ys) (m2 : DqL K B ys es) : ItOk K (Itz K p q) en B (zipD ds es) where
  go := fun i B' H sb le _ hi => by
    have hl : i < min ds.length es.length := by simpa [zipD] using hi
    have hx : i < xs.length := by rw [m.length]; omega
    have hy : i < ys.length := by rw [m2.length]; omega
    exact ⟨xs, ys, xs[i], ys[i], le.sqL (sb.le.sqL h), le.sqL (sb.le.sqL h2), by simp [hx], by simp [hy]⟩
  stop := fun i B' H sb le _ hi _ => by
    have hl : min ds.length es.length ≤ i := by simpa [zipD] using hi
    exact ⟨xs, ys, le.sqL (sb.le.sqL h), le.sqL (sb.le.sqL h2), by rw [m.length, m2.length]; omega⟩
  yld := fun i z B' H v H' sb le _ hd y => by
    obtain ⟨T, x, y', rfl, n, rfl, y1, y2⟩ := y
    obtain ⟨d, e, e1, e2, rfl⟩ := zipD_get hd
    exact newPair le n ((m.uniq (y1 xs (le.sqL (sb.le.sqL h))) e1).up sb.le) ((m2.uniq (y2 ys (le.sqL (sb.le.sqL h2))) e2).up sb.le)
theorem itzT_ok {p q : Addr} {xs ys : List V} {ds es : List D} (h : SqT K B p xs) (m : DqL K B xs ds) (h2 : SqT K B q ys) (m2 : DqL K B ys es) : ItOk K (ItzT K p q) en B (zipD ds es) where
  go := fun i B' H sb le _ hi => by
    have hl : i < min ds.length es.length := by simpa [zipD] using hi
    have hx : i < xs.length := by rw [m.length]; omega
    have hy : i < ys.length := by rw [m2.length]; omega
    exact ⟨xs, ys, xs[i], ys[i], le.sqT (sb.le.sqT h), le.sqT (sb.le.sqT h2), by simp [hx], by simp [hy]⟩
  stop := fun i B' H sb le _ hi _ => by
    have hl : min ds.length es.length ≤ i := by simpa [zipD] using hi
    exact ⟨xs, ys, le.sqT (sb.le.sqT h), le.sqT (sb.le.sqT h2), by rw [m.length, m2.length]; omega⟩
  yld := fun i z B' H v H' sb le _ hd y => by
    obtain ⟨T, x, y', rfl, n, rfl, y1, y2⟩ := y
    obtain ⟨d, e, e1, e2, rfl⟩ := zipD_get hd
    exact newPair le n ((m.uniq (y1 xs (le.sqT (sb.le.sqT h))) e1).up sb.le) ((m2.uniq (y2 ys (le.sqT (sb.le.sqT h2))) e2).up sb.le)
def enD (ds : List D) : List D := zipD (rngD 0 ds.length) ds
theorem enD_get {ds : List D} {i : Nat} {z : D} (h : (enD ds)[i]? = some z) : ∃ d, ds[i]? = some d ∧ z = .tup [.int i, d] := by
  obtain ⟨d, e, h1, h2, rfl⟩ := zipD_get h
  obtain ⟨_, rfl⟩ := rngD_get h1
  exact ⟨e, h2, by simp⟩
theorem enD_len (ds : List D) : (enD ds).length = ds.length := by simp [enD, zipD, rngD]
theorem ite_ok {p : Addr} {xs : List V} {ds : List D} (h : SqL K B p xs) (m : DqL K B xs ds) : ItOk K (Ite K p) en B (enD ds) where
  go := fun i B' H sb le _ hi => by
    rw [enD_len] at hi
    have hx : i < xs.length := by rw [m.length]; exact hi
    exact ⟨xs, xs[i], le.sqL (sb.le.sqL h), by simp [hx]⟩
  stop := fun i B' H sb le _ hi _ => ⟨xs, le.sqL (sb.le.sqL h), by rw [enD_len] at hi; rw [m.length]; exact hi⟩
  yld := fun i z B' H v H' sb le _ hd y => by
    obtain ⟨T, x, rfl, n, rfl, y⟩ := y
    obtain ⟨d, e1, rfl⟩ := enD_get hd
    exact newPair le n (.int _) ((m.uniq (y xs (le.sqL (sb.le.sqL h))) e1).up sb.le)
def kD : Key → D
  | .inl i => .int i
  | .inr x => .str x
theorem dq_k {B : Hp} (k : Key) : Dq K B (kV k) (kD k) := by
  cases k with
  | inl i => exact .int i
  | inr x => exact .str x
def itemsD (kvs : List (Key × D)) : List D := kvs.map fun p => .tup [kD p.1, p.2]
/-- the pairs of a dict that is locked -/
theorem iti_ok {p : Addr} {o : Obj} {kvs : List (Key × V)} {ds : List (Key × D)} (hl : (p, o, .dK kvs) ∈ en.lk) (m : DqM K B kvs ds) : ItOk K (Iti p o kvs) en B (itemsD ds) where
  go := fun i B' H sb le lk hi => ⟨lk _ hl, by rw [m.length]; simpa [itemsD] using hi⟩
  stop := fun i B' H sb le lk hi _ => ⟨lk _ hl, by rw [m.length]; simpa [itemsD] using hi⟩
  yld := fun i z B' H v H' sb le _ hd y => by
    obtain ⟨T, k, x, e1, rfl, n, rfl⟩ := y
    unfold itemsD at hd
    rw [List.getElem?_map] at hd
    cases q : ds[i]? with
    | none => rw [q] at hd; cases hd
    | some kd =>
      rw [q] at hd
      obtain ⟨k', d⟩ := kd
      obtain ⟨v, e2, e3⟩ := m.get q
      rw [e1] at e2
      cases e2
      cases hd
      exact newPair le n (dq_k k) (e3.up sb.le)
theorem itk_ok {p : Addr} {o : Obj} {kvs : List (Key × V)} {ds : List (Key × D)} (hl : (p, o, .dK kvs) ∈ en.lk) (m : DqM K B kvs ds) : ItOk K (Itk p o kvs) en B (ds.map fun p => kD p.1) where
  go := fun i B' H sb le lk hi => ⟨lk _ hl, by rw [m.length]; simpa using hi⟩
  stop := fun i B' H sb le lk hi _ => ⟨lk _ hl, by rw [m.length]; simpa using hi⟩
  yld := fun i z B' H v H' sb le _ hd y => by
    obtain ⟨rfl, k, x, e1, rfl⟩ := y
    rw [List.getElem?_map] at hd
    cases q : ds[i]? with
    | none => rw [q] at hd; cases hd
    | some kd =>
      rw [q] at hd
      obtain ⟨k', d⟩ := kd
      obtain ⟨v, e2, e3⟩ := m.get q
      rw [e1] at e2
      cases e2
      cases hd
      exact ⟨B', Gr.rfl', le, dq_k k⟩

theorem pit_lst (h : PP X iter Γ fun d => ∃ ds, d = .lst ds ∧ L ds) : PIt X tg iter Γ L := fun en σ B H rp R q =>
  ⟨_, pi_list (be X iter), h en σ B H rp _ fun v d B1 H1 g p m => by
    obtain ⟨ds, rfl, p⟩ := p
    cases m with
    | lst h1 h2 => exact ⟨_, rfl, ⟨_, (.inl (g.le.rd h1))⟩, q _ ds B1 H1 g p (itl_ok (.inl h1) h2)⟩⟩
theorem pit_tup (h : PP X iter Γ fun d => ∃ ds, d = .tup ds ∧ L ds) : PIt X tg iter Γ L := fun en σ B H rp R q =>
  ⟨_, pi_tup (be X iter), h en σ B H rp _ fun v d B1 H1 g p m => by
    obtain ⟨ds, rfl, p⟩ := p
    cases m with
    | tup h1 h2 => exact ⟨_, rfl, ⟨_, g.le.sqT h1⟩, q _ ds B1 H1 g p (itt_ok h1 h2)⟩⟩
theorem pit_rng1 (hb : Bc W X bx) {p : Pos} (h : PL X [a] Γ fun ds => ∃ j : Int, ds = [.int j] ∧ -(2 ^ 62) ≤ j ∧ j < 2 ^ 62 ∧ L (rngD 0 j.toNat))
    (hg : bx.sc.names.lookup ("range" : Str) = some .globalImplicit := by rfl) (hm : W.mg "range" = none := by assumption) (hs : starEach [a] X.env = [(false, eval a X.env)] := by rfl) : PIt X tg (.Call (.Name "range" p) [a] [] pos) Γ L := fun en σ B H rp R q =>
  ⟨_, pi_range1 (by show X.env.scope.names.lookup _ = _; rw [hb.sco]; exact hg) (by rw [hb.mo]; exact hm) (ba X _) hs, h en σ B H rp _ fun vs ds B1 H1 g p m => by
    obtain ⟨j, rfl, p1, p2, p⟩ := p
    cases m with
    | cons m1 m2 =>
      cases m1
      cases m2
      exact ⟨j, rfl, p1, p2, q _ _ B1 H1 g p itr_ok⟩⟩
theorem pit_rng2 (hb : Bc W X bx) {p : Pos} (h : PL X [a, b] Γ fun ds => ∃ i j : Int, ds = [.int i, .int j] ∧ (-(2 ^ 62) ≤ i ∧ i < 2 ^ 62 ∧ -(2 ^ 62) ≤ j ∧ j < 2 ^ 62) ∧ L (rngD i (j - i).toNat))
    (hg : bx.sc.names.lookup ("range" : Str) = some .globalImplicit := by rfl) (hm : W.mg "range" = none := by assumption) (hs : starEach [a, b] X.env = [(false, eval a X.env), (false, eval b X.env)] := by rfl)
    (hs2 : starEach [b] X.env = [(false, eval b X.env)] := by rfl) : PIt X tg (.Call (.Name "range" p) [a, b] [] pos) Γ L := fun en σ B H rp R q =>
  ⟨_, pi_range2 (by show X.env.scope.names.lookup _ = _; rw [hb.sco]; exact hg) (by rw [hb.mo]; exact hm) (ba X _) hs hs2, h en σ B H rp _ fun vs ds B1 H1 g p m => by
    obtain ⟨i, j, rfl, p1, p⟩ := p
    cases m with
    | cons m1 m2 =>
      cases m1
      cases m2 with
      | cons m2 m3 =>
        cases m2
        cases m3
        exact ⟨i, j, rfl, p1, q _ _ B1 H1 g p itr_ok⟩⟩
theorem pit_zip (hb : Bc W X bx) {p tpos : Pos} {elts : List Expr} {kk : Nat} (h : PL X [a, b] Γ fun ds => ∃ xs ys, ((ds = [.lst xs, .lst ys]) ∨ (ds = [.tup xs, .tup ys])) ∧ L (zipD xs ys))
    (hg : bx.sc.names.lookup ("zip" : Str) = some .globalImplicit := by rfl) (hm : W.mg "zip" = none := by assumption)
    (hs : starEach [a, b] X.env = (false, eval a X.env) :: starEach [b] X.env := by rfl) (hpl : (backTo pos (starEach [b] X.env)).any (·.1) = false := by rfl) : PIt X (.Tuple elts kk tpos) (.Call (.Name "zip" p) [a, b] [] pos) Γ L := fun en σ B H rp R q =>
  ⟨_, pi_zipA (by show X.env.scope.names.lookup _ = _; rw [hb.sco]; exact hg) (by rw [hb.mo]; exact hm) (ba X _) hs hpl, h en σ B H rp _ fun vs ds B1 H1 g p m => by
    obtain ⟨xs, ys, p1, p⟩ := p
    rcases p1 with rfl | rfl
    · cases m with
      | cons m1 m2 =>
        cases m2 with
        | cons m2 m3 =>
          cases m3
          cases m1 with
          | lst h1 h2 =>
            cases m2 with
            | lst h3 h4 => exact ⟨_, _, _, _, rfl, .inl ⟨(.inl (g.le.rd h1)), (.inl (g.le.rd h3)), q _ _ B1 H1 g p (itz_ok (.inl h1) h2 (.inl h3) h4)⟩⟩
    · cases m with
      | cons m1 m2 =>
        cases m2 with
        | cons m2 m3 =>
          cases m3
          cases m1 with
          | tup h1 h2 =>
            cases m2 with
            | tup h3 h4 => exact ⟨_, _, _, _, rfl, .inr ⟨g.le.sqT h1, g.le.sqT h3, q _ _ B1 H1 g p (itzT_ok h1 h2 h3 h4)⟩⟩⟩
theorem pit_enL (hb : Bc W X bx) {p tpos : Pos} {elts : List Expr} {kk : Nat} (h : PL X [a] Γ fun ds => ∃ xs, ds = [.lst xs] ∧ L (enD xs))
    (hg : bx.sc.names.lookup ("enumerate" : Str) = some .globalImplicit := by rfl) (hm : W.mg "enumerate" = none := by assumption) (hs : starEach [a] X.env = [(false, eval a X.env)] := by rfl) : PIt X (.Tuple elts kk tpos) (.Call (.Name "enumerate" p) [a] [] pos) Γ L := fun en σ B H rp R q =>
  ⟨_, pi_enum (by show X.env.scope.names.lookup _ = _; rw [hb.sco]; exact hg) (by rw [hb.mo]; exact hm) (ba X _) hs, h en σ B H rp _ fun vs ds B1 H1 g p m => by
    obtain ⟨xs, rfl, p⟩ := p
    cases m with
    | cons m1 m2 =>
      cases m2
      cases m1 with
      | lst h1 h2 => exact ⟨_, _, rfl, (.inl (g.le.rd h1)), q _ _ B1 H1 g p (ite_ok (.inl h1) h2)⟩⟩

/-! ### targets -/
abbrev bG (X : Cx) (tg : Expr) : TG := fun v σ H Q => ∃ t, PG X tg t ∧ t v σ H Q
theorem bg (X : Cx) (tg : Expr) : PG X tg (bG X tg) := ⟨fun pins s σ H v u Q I r ⟨_, h, q⟩ => h.run pins s σ H v u Q I r q⟩
abbrev bGs (X : Cx) (tgs : List Expr) : TGs := fun v σ H Q => ∃ t, PGs X tgs t ∧ t v σ H Q
theorem bgs (X : Cx) (tgs : List Expr) : PGs X tgs (bGs X tgs) := ⟨fun pins s σ H v u Q I r ⟨_, h, q⟩ => h.run pins s σ H v u Q I r q⟩
/-- but for the slots at V the states are one -/
def But (Z : Nat → Prop) (σ σ' : St) : Prop := σ'.length = σ.length ∧ ∀ j, ¬ Z j → σ'[j]? = σ[j]?
theorem But.rfl' {Z : Nat → Prop} {σ : St} : But Z σ σ := ⟨rfl, fun _ _ => rfl⟩
theorem But.tr {Z : Nat → Prop} {σ σ1 σ2 : St} (h : But Z σ σ1) (k : But Z σ1 σ2) : But Z σ σ2 := ⟨k.1.trans h.1, fun j n => (k.2 j n).trans (h.2 j n)⟩
theorem But.set {Z : Nat → Prop} {σ : St} {i : Nat} (h : Z i) (v : Option V) : But Z σ (σ.set i v) := ⟨by simp, fun j n => by
  rw [List.getElem?_set_ne fun e => n (by rw [← e]; exact h)]⟩
def PGd (X : Cx) (tg : Expr) (d : D) (Γ : List Slot) (Z : Nat → Prop) (L : List Slot → Prop) : Prop :=
  ∀ en σ B H v, Rp X.K en B H σ Γ → Dq X.K B v d → ∀ Q : St → Hp → Prop, (∀ σ' Γ', Rp X.K en B H σ' Γ' → But Z σ σ' → L Γ' → Q σ' H) → bG X tg v σ H Q
def PGds (X : Cx) (tgs : List Expr) (ds : List D) (Γ : List Slot) (Z : Nat → Prop) (L : List Slot → Prop) : Prop :=
  ∀ en σ B H vs, Rp X.K en B H σ Γ → DqL X.K B vs ds → ∀ Q : St → Hp → Prop, (∀ σ' Γ', Rp X.K en B H σ' Γ' → But Z σ σ' → L Γ' → Q σ' H) → bGs X tgs vs σ H Q
variable {Z : Nat → Prop} {G : List Slot → Prop}
theorem pgd_name (hb : Bc W X bx) (i : Nat) {d : D} {x : Str} (hV : Z i) (p : G (Γ.set i (.v d))) (hN : bx.N[i]? = some x := by rfl) (hx : Loc bx.sc x := by first | exact Or.inl rfl | exact Or.inr rfl)
    (hf : bx.fn x = true ∨ bx.sc.names.lookup x = some .local := by first | exact Or.inr rfl | exact Or.inl rfl) : PGd X (.Name x pos) d Γ Z G := fun en σ B H v rp m Q q =>
  ⟨_, pg_name (by rw [hb.nn]; exact hb.nd) (by rw [hb.nn]; exact hN) (by rw [hb.sco]; exact hx) (by rw [hb.fno, hb.sco]; exact hf), q _ _ (rp.setV i m) (But.set hV _) p⟩
theorem pgs_nil (p : G Γ) : PGds X [] [] Γ Z G := fun en σ B H vs rp m Q q => by
  cases m
  exact ⟨_, L2.pgs_nil, rfl, q σ Γ rp But.rfl' p⟩
theorem pgs_cons {t : Expr} {ts : List Expr} {d : D} {ds : List D} (h : PGd X t d Γ Z fun Γ' => PGds X ts ds Γ' Z G)
    (hs : (assignEach (t :: ts) X.env).map (·.2) = assign t X.env :: (assignEach ts X.env).map (·.2) := by rfl) : PGds X (t :: ts) (d :: ds) Γ Z G := fun en σ B H vs rp m Q q => by
  cases m with
  | cons m1 m2 => exact ⟨_, L2.pgs_cons (bg X t) (bgs X ts) hs, _, _, rfl, h en σ B H _ rp m1 _ fun σ1 Γ1 r1 b1 p1 => p1 en σ1 B H _ r1 m2 Q fun σ2 Γ2 r2 b2 p2 => q σ2 Γ2 r2 (b1.tr b2) p2⟩
theorem pgd_tup (hb : Bc W X bx) {ts : List Expr} {ds : List D} {k : Nat} (h : PGds X ts ds Γ Z G) (hn : (assignEach ts X.env).length = ds.length := by rfl) (hst : (assignEach ts X.env).findIdx? (·.1) = none := by rfl) :
    PGd X (.Tuple ts k pos) (.tup ds) Γ Z G := fun en σ B H v rp m Q q => by
  cases m with
  | tup h1 h2 => exact ⟨_, pg_tup hb.calm (bgs X ts) hn hst, _, _, rfl, rp.le.sqT h1, h2.length, h en σ B H _ rp h2 Q q⟩

/-! ### comprehensions -/
def wipeG (Γ : List Slot) : List Nat → List Slot
  | [] => Γ
  | v :: vs => (wipeG Γ vs).set v .no
theorem Rp.wipe {σ : St} (r : Rp K en B H σ Γ) : ∀ vs : List Nat, Rp K en B H (wipe σ vs) (wipeG Γ vs)
  | [] => r
  | v :: vs => (Rp.wipe r vs).forget v none
theorem wipe_get {σ : St} {i : Nat} : ∀ {vs : List Nat}, (L2.wipe σ vs)[i]? = if i ∈ vs then (if i < σ.length then some none else none) else σ[i]?
  | [] => by simp [L2.wipe]
  | v :: vs => by
    unfold L2.wipe
    rw [get_set, wipe_get (vs := vs), wipe_length]
    by_cases h : v = i
    · subst h
      by_cases q : v < σ.length
      · simp [q]
      · rw [if_neg (fun z => q z.2)]
        have z : σ[v]? = none := List.getElem?_eq_none (Nat.le_of_not_lt q)
        simp [q, z]
    · have h' : ¬ i = v := fun z => h z.symm
      simp [h, h']
theorem wipe_but {σ σ' : St} {vs : List Nat} (h : But (· ∈ vs) (L2.wipe σ vs) σ') : L2.wipe σ' vs = L2.wipe σ vs := by
  have hl : σ'.length = σ.length := h.1.trans (wipe_length σ vs)
  refine List.ext_getElem? fun j => ?_
  rw [wipe_get, wipe_get, hl]
  by_cases m : j ∈ vs
  · rw [if_pos m, if_pos m]
  · rw [if_neg m, if_neg m, h.2 j m, wipe_get, if_neg m]
def Bx.blk (b : Bx) (scope : Scope) : Bx := ⟨b.k, b.N, relS scope b.sc, fun x => scope.names.lookup x == some .cell⟩
/-- no exception is wished where none is told of -/
def Wd.calm (W : Wd) : Prop := ∀ st H s e s', ¬ W.CX st H s (fun _ _ _ => False) e s'
theorem Bc.blk (hb : Bc W X bx) (hc : W.calm) {s : Shared} {H0 : Hp} {scope : Scope} {C : Addr} {cl : List (Str × Addr)} {fp : List Addr} : Bc W (X.blk s H0 scope (compEnvC scope cl C X.env) fp) (bx.blk scope) :=
  ⟨hb.prog, hb.wo, hb.kk, hb.mo, hb.bas, hb.nn, hb.nd, by
    show relS scope X.env.scope = relS scope bx.sc
    rw [hb.sco], rfl, hb.calm, hb.room, hb.gd, fun _ _ _ _ _ _ _ h => (hc _ _ _ _ _ h).elim⟩
def PTs' (X : Cx) (ifs : List Expr) (Γ : List Slot) (T : Bool → Prop) : Prop :=
  ∀ en σ B H, Rp X.K en B H σ Γ → ∀ Q : Bool → Hp → Prop, (∀ b B' H', Go X.K en B H B' H' → T b → Q b H') → ∃ t, PTs X ifs t ∧ t σ H Q
theorem pts_no {T : Bool → Prop} (t : T true) : PTs' X [] Γ T := fun en σ B H rp Q q => ⟨_, pts_nil, q true B H (.refl rp) t⟩
theorem pts_1 {T : Bool → Prop} (h : PB X c Γ T) : PTs' X [c] Γ T := fun en σ B H rp Q q => ⟨_, pts_one (bt X c), h en σ B H rp Q q⟩
abbrev blks (X : Cx) (scope : Scope) (s : Shared) (H0 : Hp) (C : Addr) (cl : List (Str × Addr)) (fp : List Addr) : Cx := X.blk s H0 scope (compEnvC scope cl C X.env) fp
end
end Dn

/-! Dn4: list and dict comprehensions; locks. -/
namespace Dn
open PySem L2 RZ

section
variable {W : Wd} {X : Cx} {bx : Bx} {Γ : List Slot} {tg a b c e iter elt kx vx : Expr} {ifs : List Expr} {pos : Pos} {K : PySem.W.Frag} {en : Ent} {B H : Hp} {σ : St} {scope : Scope} {own : List (Str × Nat)} {R : O → Prop} {P : D → Prop}

/-- one turn of a comprehension: the target's store, the tests, then what is taken -/
def Turn1 (W : Wd) (bx : Bx) (scope : Scope) (tg : Expr) (ifs : List Expr) (Γ : List Slot) (vs : List Nat) (d : D) (no : Prop) (yes : List Slot → Prop) : Prop :=
  ∃ Γ2, (∀ X', Bc W X' (bx.blk scope) → PGd X' tg d (wipeG Γ vs) (· ∈ vs) fun z => z = Γ2) ∧ ∃ T : Bool → Prop, (∀ X', Bc W X' (bx.blk scope) → PTs' X' ifs Γ2 T) ∧ (T false → no) ∧ (T true → yes Γ2)
/-- over ds, from no item to J's lists -/
def LcOk (W : Wd) (bx : Bx) (scope : Scope) (tg : Expr) (ifs : List Expr) (elt : Expr) (Γ : List Slot) (vs : List Nat) (R : O → Prop) (ds : List D) : Prop :=
  ds.length ≤ sizeLine ∧ ∃ J : Nat → List O → Prop, J 0 [] ∧ (∀ acc, J ds.length acc → R (.lst acc)) ∧
    ∀ i d acc, ds[i]? = some d → J i acc → acc.length ≤ i → Turn1 W bx scope tg ifs Γ vs d (J (i + 1) acc) fun Γ2 => ∀ X', Bc W X' (bx.blk scope) → PO X' elt Γ2 fun o => J (i + 1) (acc ++ [o])

theorem orl_len {B H : Hp} : ∀ {vs : List V} {os : List O} {f : List Addr}, ORL K B H vs os f → vs.length = os.length
  | _, [], _, h => by cases h; rfl
  | _, o :: os, _, h => by
    cases h with
    | cons h1 h2 h3 => simp [orl_len h2]
theorem orl_snoc {B H : Hp} {v : V} {o : O} {fo : List Addr} (ho : OR K B H v o fo) : ∀ {vs : List V} {os : List O} {f : List Addr}, ORL K B H vs os f → (∀ a ∈ f, a ∉ fo) → ORL K B H (vs ++ [v]) (os ++ [o]) (f ++ fo)
  | _, [], _, h, n => by
    cases h
    have := ORL.cons (K := K) (B := B) (H := H) (f := fo) (g := []) ho .nil (fun a _ => by simp)
    simpa using this
  | _, o' :: os, _, h, n => by
    cases h with
    | @cons _ _ _ _ f g h1 h2 h3 =>
      have r := orl_snoc ho h2 fun a ha => n a (List.mem_append_right _ ha)
      have := ORL.cons (K := K) (B := B) (H := H) h1 r (fun a ha => by
        simp only [List.mem_append, not_or]
        exact ⟨h3 a ha, n a (List.mem_append_left _ ha)⟩)
      simpa using this
/-- the new list as it grows -/
def LcInv (K : PySem.W.Frag) (en : Ent) (B1 H1 : Hp) (L : Addr) (J : Nat → List O → Prop) (i : Nat) (H : Hp) : Prop :=
  ∃ B vals acc f, Go K en B1 H1 B H ∧ H L = some (.lst vals) ∧ B L = none ∧ ORL K B H vals acc f ∧ L ∉ f ∧ (∀ a ∈ f, H1 a = none) ∧ acc.length ≤ i ∧ J i acc
/-- a list beside all is written -/
theorem Go.wr {B1 H1 : Hp} {L : Addr} {ho : HO} (rp : Rp K en B1 H1 σ Γ) (g : Go K en B1 H1 B H) (n : H1 L = none) (nb : B L = none) : Go K en B1 H1 B (upd H L ho) := by
  refine ⟨⟨g.gr.b, fun a u e b m => ?_, fun a o u e => ?_, fun a h => ?_, fun a h k => g.gr.s a h k⟩, g.le.write nb, ?_⟩
  · rw [upd_ne fun z => by rw [z, n] at e; cases e]
    exact g.gr.h a u e b m
  · rw [upd_ne fun z => by rw [z, n] at e; cases e]
    exact g.gr.z a o u e
  · rw [show upd H L ho a = H a from upd_ne fun z => h (by rw [z]; exact n)]
    exact g.gr.p a h
  · have w := g.bw
    unfold BwOk at w ⊢
    cases hbw : en.bw with
    | none => trivial
    | some z =>
      rw [hbw] at w
      obtain ⟨v', I'⟩ := z
      obtain ⟨o', f', i, r', mm⟩ := w
      refine ⟨o', f', i, OR.keep Sub.rfl'.le _ _ _ r' fun a ha => ⟨upd_ne fun z => ?_, (OR.foot _ _ _ r' a ha).1⟩, mm⟩
      rw [z] at ha
      exact rp.gr.p L ((rp.me L (mm L ha)).1) n
theorem lc_go (hb : Bc W X bx) (hc : W.calm) (rp : Rp X.K en B H σ Γ) (hi : ∀ R' : It → Hp → Prop, (∀ J ds B' H', Go X.K en B H B' H' → LcOk W bx scope tg ifs elt Γ (own.map (·.2)) R ds → ItOk X.K J en B' ds → R' J H') → bI X tg iter σ H R')
    {Q : VK} (q : ∀ v o f B' H', Go X.K en B H B' H' → R o → OR X.K B' H' v o f → (∀ a ∈ f, H a = none) → Q v H') :
    tLc (bI X tg iter) (fun v σ H Q => ∀ s H0 C cl fp, bG (blks X scope s H0 C cl fp) tg v σ H Q) (fun σ H Q => ∀ s H0 C cl fp, ∃ t, PTs (blks X scope s H0 C cl fp) ifs t ∧ t σ H Q)
      (fun σ H Q => ∀ s H0 C cl fp, bE (blks X scope s H0 C cl fp) elt σ H Q) (own.map (·.2)) σ H Q := by
  refine hi _ fun J ds B1 H1 g1 ⟨hz, Jv, j0, je, jt⟩ it D hD => ?_
  have rp1 := g1.rp rp
  have nM : ∀ a, H1 a = none → ¬ en.M a := fun a n m => rp1.gr.p a ((rp1.me a m).1) n
  have hHn : ∀ a, H1 a = none → H a = none := fun a n => by
    cases z : H a with
    | none => rfl
    | some u => exact absurd n (g1.gr.p a (by rw [z]; simp))
  have lkGo : ∀ {B' H'}, Go X.K en B1 H1 B' H' → LkOk en H' := fun g p hp => g.gr.z _ _ _ (rp1.lks p hp)
  refine ⟨fun i m H => m = ds.length - i ∧ i ≤ ds.length ∧ LcInv X.K en B1 H1 D Jv i H, ⟨ds.length, by simp, Nat.zero_le _, B1, [], [], [], ?_, upd_same, none_of_le g1.le hD, .nil, by simp, (by simp), Nat.zero_le _, j0⟩, ?_⟩
  · exact (Go.refl rp1).wr rp1 hD (none_of_le g1.le hD)
  rintro i m H2 ⟨rfl, hi, B2, vals, acc, f, g2, hL, bL, orl, nL, fr, hlen, hj⟩
  by_cases hlt : i < ds.length
  · refine .inr ⟨it.go i B2 H2 g2.gr.b g2.le (lkGo g2) hlt, LcInv X.K en B1 H1 D Jv (i + 1), fun H' p' => ⟨ds.length - (i + 1), by omega, rfl, hlt, p'⟩, fun x H3 y => ?_⟩
    obtain ⟨d, hd⟩ : ∃ d, ds[i]? = some d := ⟨ds[i], by simp [hlt]⟩
    obtain ⟨B3, gr3, le3, hx⟩ := it.yld i d B2 H2 x H3 g2.gr.b g2.le (lkGo g2) hd y
    have rp2 := g2.rp rp1
    have g3 : Go X.K en B2 H2 B3 H3 := Go.of rp2 gr3 le3
    have rp3 := (g3.rp rp2).wipe (own.map (·.2))
    obtain ⟨Γ2, hg, T, ht, hno, hyes⟩ := jt i d acc hd hj hlen
    -- what is kept from turn to turn
    have keep : ∀ {B' H' : Hp}, Go X.K en B2 H2 B' H' → H' D = some (.lst vals) ∧ B' D = none ∧ ORL X.K B' H' vals acc f := fun {B' H'} g => by
      refine ⟨g.gr.h D _ hL bL (nM D hD), g.gr.s D bL (by rw [hL]; simp), ORL.keep g.gr.b.le _ _ _ orl fun a ha => ?_⟩
      obtain ⟨h1, h2⟩ := ORL.foot _ _ _ orl a ha
      cases z : H2 a with
      | none => exact absurd z h2
      | some u => exact ⟨g.gr.h a u z h1 (nM a (fr a ha)), g.gr.s a h1 h2⟩
    -- after the target's store: all that follows, for any block
    have after : ∀ σ2, Rp X.K en B3 H3 σ2 Γ2 → (fun σ H Q => ∀ s H0 C cl fp, ∃ t, PTs (blks X scope s H0 C cl fp) ifs t ∧ t σ H Q : TT) σ2 H3 fun b H4 =>
        if b = true then (fun σ H Q => ∀ s H0 C cl fp, bE (blks X scope s H0 C cl fp) elt σ H Q : TE) σ2 H4 fun y H5 => ∃ acc, H5 D = some (.lst acc) ∧ acc.length < sizeLine ∧ LcInv X.K en B1 H1 D Jv (i + 1) (upd H5 D (.lst (acc ++ [y]))) else LcInv X.K en B1 H1 D Jv (i + 1) H4 := fun σ2 r2 => by
      intro s H0 C cl fp
      refine ht (blks X scope s H0 C cl fp) (hb.blk hc) en σ2 B3 H3 r2 _ fun b B4 H4 g4 tb => ?_
      have g24 := g3.tr g4
      cases b with
      | false =>
        rw [if_neg Bool.false_ne_true]
        obtain ⟨k1, k2, k3⟩ := keep g24
        exact ⟨B4, vals, acc, f, g2.tr g24, k1, k2, k3, nL, fr, Nat.le_succ_of_le hlen, hno tb⟩
      | true =>
        rw [if_pos rfl]
        intro s H0 C cl fp
        refine hyes tb (blks X scope s H0 C cl fp) (hb.blk hc) en σ2 B4 H4 (Go.rp g4 r2) _ fun y o fo B5 H5 g5 jo ro nf => ?_
        have g25 := g24.tr g5
        obtain ⟨k1, k2, k3⟩ := keep g25
        have hfo : ∀ a ∈ fo, H2 a = none := fun a ha => by
          cases z : H2 a with
          | none => rfl
          | some u => exact absurd (nf a ha) (g24.gr.p a (by rw [z]; simp))
        have nLo : D ∉ fo := fun m => by rw [hfo D m] at hL; cases hL
        have hv : vals.length = acc.length := orl_len k3
        refine ⟨vals, k1, by omega, B5, vals ++ [y], acc ++ [o], f ++ fo, (g2.tr g25).wr rp1 hD k2, upd_same, k2, ?_, ?_, ?_, by simp; omega, jo⟩
        · refine ORL.keep Sub.rfl'.le _ _ _ (orl_snoc ro k3 fun a ha m => ?_) fun a ha => ?_
          · exact (ORL.foot _ _ _ orl a ha).2 (hfo a m)
          · have ne : a ≠ D := by
              rintro rfl
              rcases List.mem_append.mp ha with z | z
              · exact nL z
              · exact nLo z
            refine ⟨upd_ne ne, ?_⟩
            rcases List.mem_append.mp ha with z | z
            · exact (ORL.foot _ _ _ k3 a z).1
            · exact (OR.foot _ _ _ ro a z).1
        · simp only [List.mem_append, not_or]
          exact ⟨nL, nLo⟩
        · intro a ha
          rcases List.mem_append.mp ha with z | z
          · exact fr a z
          · cases w : H1 a with
            | none => rfl
            | some u => exact absurd (hfo a z) (g2.gr.p a (by rw [w]; simp))
    intro s H0 C cl fp
    refine hg (blks X scope s H0 C cl fp) (hb.blk hc) en _ B3 H3 x rp3 hx _ fun σ2 Γ2' r2 bt e => ?_
    subst e
    exact ⟨wipe_but bt, after σ2 r2⟩
  · have e : i = ds.length := by omega
    subst e
    refine .inl ⟨it.stop _ B2 H2 g2.gr.b g2.le (lkGo g2) (Nat.le_refl _) (Nat.le_refl _), q _ (.lst acc) (D :: f) B2 H2 (g1.tr g2) (je acc hj) (.lst bL hL orl nL) fun a ha => ?_⟩
    rcases List.mem_cons.mp ha with rfl | z
    · exact hHn a hD
    · exact hHn a (fr a z)
/-- under C -/
def POC (X : Cx) (C : Ent → St → Hp → Prop) (e : Expr) (Γ : List Slot) (P : O → Prop) : Prop :=
  ∀ en σ B H, Rp X.K en B H σ Γ → C en σ B → ∀ Q : VK, (∀ v o f B' H', Go X.K en B H B' H' → P o → OR X.K B' H' v o f → (∀ a ∈ f, H a = none) → Q v H') → bE X e σ H Q
def PItC (X : Cx) (C : Ent → St → Hp → Prop) (tg iter : Expr) (Γ : List Slot) (L : List D → Prop) : Prop :=
  ∀ en σ B H, Rp X.K en B H σ Γ → C en σ B → ∀ R : It → Hp → Prop, (∀ J ds B' H', Go X.K en B H B' H' → L ds → ItOk X.K J en B' ds → R J H') → bI X tg iter σ H R
theorem poc_lc {C : Ent → St → Hp → Prop} (hb : Bc W X bx) (hc : W.calm) (own : List (Str × Nat)) (h : PItC X C tg iter Γ (LcOk W bx scope tg ifs elt Γ (own.map (·.2)) R)) (hk : blkC bx.N bx.sc scope own = true := by first | (dsimp only; decide +kernel) | decide +kernel | rfl)
    (hs : ∀ x, foldedSetIterable iter X.env x = pure x := by intro _; rfl) : POC X C (.ListComp elt [⟨tg, iter, ifs, 0⟩] scope pos) Γ R := fun en σ B H rp hC Q q =>
  ⟨_, pe_lc hb.calm (by rw [hb.nn]; exact hb.nd) (bi X tg iter) (by rw [hb.nn, hb.sco]; exact blkOk_by hk)
    (fun s H0 C cl fp => ⟨fun pins s' σ' H' v u Q' I r z => (bg _ tg).run pins s' σ' H' v u Q' I r (z s H0 C cl fp)⟩)
    (fun s H0 C cl fp => ⟨fun pins s' σ' H' Q' I z => by
      obtain ⟨t, h1, h2⟩ := z s H0 C cl fp
      exact h1.run pins s' σ' H' Q' I h2⟩)
    (fun s H0 C cl fp => ⟨fun pins s' σ' H' Q' I z => (be _ elt).run pins s' σ' H' Q' I (z s H0 C cl fp)⟩) hs,
   lc_go hb hc rp (h en σ B H rp hC) q⟩
theorem po_lc (hb : Bc W X bx) (hc : W.calm) (own : List (Str × Nat)) (h : PIt X tg iter Γ (LcOk W bx scope tg ifs elt Γ (own.map (·.2)) R)) (hk : blkC bx.N bx.sc scope own = true := by first | (dsimp only; decide +kernel) | decide +kernel | rfl)
    (hs : ∀ x, foldedSetIterable iter X.env x = pure x := by intro _; rfl) : PO X (.ListComp elt [⟨tg, iter, ifs, 0⟩] scope pos) Γ R := fun en σ B H rp Q q =>
  poc_lc (C := fun _ _ _ => True) hb hc own (fun en σ B H rp _ => h en σ B H rp) hk hs en σ B H rp trivial Q q

/-! ### locks -/
/-- the dict in the slot i is locked -/
def LkAt (K : PySem.W.Frag) (i : Nat) (ds : List (Key × D)) (en : Ent) (σ : St) (B : Hp) : Prop := ∃ p o kvs, σ[i]? = some (some (.ref p)) ∧ (p, o, .dK kvs) ∈ en.lk ∧ DqM K B kvs ds
def Ent.lock (en : Ent) (p : Addr) (o : Obj) (u : HO) : Ent := { en with lk := (p, o, u) :: en.lk }
/-- the frame's facts with the dict at p locked -/
theorem Rp.lockK {p : Addr} {o : Obj} {kvs : List (Key × V)} (r : Rp K en B H σ Γ) (h : H p = some (.dK kvs)) (hB : B p = some (.dK kvs)) : Rp K (en.lock p o (.dK kvs)) B (upd H p (.frz o (.dK kvs))) σ Γ := by
  have le : Le B (upd H p (.frz o (.dK kvs))) := fun a u e => by
    by_cases z : a = p
    · subst z
      rw [hB] at e
      cases e
      exact .inr ⟨o, kvs, rfl, upd_same⟩
    · rw [upd_ne z]
      exact r.le a u e
  obtain ⟨F, f1, f2, f3⟩ := r.sl
  refine ⟨le, ⟨r.gr.b, fun a u e b m => ?_, fun a o' u e => ?_, fun a e => ?_, r.gr.s⟩, r.len, ?_, ⟨F, f1, f2, fun i => (f3 i).keep Sub.rfl'.le fun a ha => ?_⟩, r.me, fun q hq => ?_⟩
  · have e' : en.H a = some u := e
    have ne : a ≠ p := fun z => by
      have := r.gr.s a b (by rw [e']; simp)
      rw [z, hB] at this; cases this
    rw [upd_ne ne]
    exact r.gr.h a u e b m
  · have := r.gr.z a o' u e
    rw [upd_ne fun z => by rw [z, h] at this; cases this]
    exact this
  · unfold upd
    split
    · simp
    · exact r.gr.p a e
  · have w := r.bw
    show BwOk K en.M en.bw B _
    unfold BwOk at w ⊢
    cases hbw : en.bw with
    | none => trivial
    | some z =>
      rw [hbw] at w
      obtain ⟨v', I'⟩ := z
      obtain ⟨o', f', i, r', mm⟩ := w
      refine ⟨o', f', i, OR.keep Sub.rfl'.le _ _ _ r' fun a ha => ?_, mm⟩
      have nb := (OR.foot _ _ _ r' a ha).1
      exact ⟨upd_ne fun z => (by rw [z, hB] at nb; cases nb), nb⟩
  · have nb := ((f3 i).foot a ha).1
    exact ⟨upd_ne fun z => (by rw [z, hB] at nb; cases nb), nb⟩
  · rcases List.mem_cons.mp hq with rfl | hq
    · exact upd_same
    · have := r.lks q hq
      rw [upd_ne fun z => by rw [z, h] at this; cases this]
      exact this
/-- .. and unlocked -/
theorem Rp.unlock {p : Addr} {o : Obj} {kvs : List (Key × V)} {B' H' : Hp} {σ' : St} {Γ' : List Slot} (r : Rp K en B H σ Γ) (h : H p = some (.dK kvs)) (hB : B p = some (.dK kvs)) (sb : Sub B B')
    (r' : Rp K (en.lock p o (.dK kvs)) B' H' σ' Γ') : H' p = some (.frz o (.dK kvs)) ∧ Rp K en B' (upd H' p (.dK kvs)) σ' Γ' := by
  have hp : H' p = some (.frz o (.dK kvs)) := r'.lks _ List.mem_cons_self
  have hB' := sb _ _ hB
  obtain ⟨F, f1, f2, f3⟩ := r'.sl
  refine ⟨hp, fun a u e => ?_, ⟨r'.gr.b, fun a u e b m => ?_, fun a o' u e => ?_, fun a e => ?_, r'.gr.s⟩, r'.len, ?_, ⟨F, f1, f2, fun i => ?_⟩, r'.me, fun q hq => ?_⟩
  · by_cases z : a = p
    · subst z
      rw [hB'] at e
      cases e
      exact .inl upd_same
    · rw [upd_ne z]
      exact r'.le a u e
  · have ne : a ≠ p := fun z => by
      have := r.gr.s a b (by rw [e]; simp)
      rw [z, hB] at this; cases this
    rw [upd_ne ne]
    exact r'.gr.h a u e b m
  · have q := r.gr.z a o' u e
    rw [upd_ne fun z => by rw [z, h] at q; cases q]
    exact r'.gr.z a o' u e
  · unfold upd
    split
    · simp
    · exact r'.gr.p a e
  · have w : BwOk K en.M en.bw B' H' := r'.bw
    unfold BwOk at w ⊢
    cases hbw : en.bw with
    | none => trivial
    | some z =>
      rw [hbw] at w
      obtain ⟨v', I'⟩ := z
      obtain ⟨o', f', i, r2, mm⟩ := w
      refine ⟨o', f', i, OR.keep Sub.rfl'.le _ _ _ r2 fun a ha => ?_, mm⟩
      have nb := (OR.foot _ _ _ r2 a ha).1
      exact ⟨upd_ne fun z => (by rw [z, hB'] at nb; cases nb), nb⟩
  · have w : SlR K en B' H' σ'[i]? (F i) Γ'[i]? := f3 i
    refine w.keep Sub.rfl'.le fun a ha => ?_
    have nb := (w.foot a ha).1
    exact ⟨upd_ne fun z => (by rw [z, hB'] at nb; cases nb), nb⟩
  · have q1 := r.lks q hq
    rw [upd_ne fun z => by rw [z, h] at q1; cases q1]
    exact r'.lks q (List.mem_cons_of_mem _ hq)
/-- an expression that walks the dict in the slot i -/
theorem po_lock (i : Nat) {ds : List (Key × D)} (hΓ : Γ[i]? = some (.v (.dic ds))) (h : POC X (LkAt X.K i ds) e Γ R) : PO X e Γ R := fun en σ B H rp Q q => by
  obtain ⟨v, h1, h2⟩ := rp.val hΓ
  cases h2 with
  | @dic a kvs _ hr hm =>
    rcases hr with hr | ⟨o, hr⟩
    · rcases rp.le _ _ hr with z | ⟨o, kvs', e1, z⟩
      · refine ⟨_, pe_lock (be X e), a, .dK kvs, z, trivial, fun od => ?_⟩
        have r1 := rp.lockK (o := od) z hr
        refine h _ σ B _ r1 ⟨a, od, kvs, h1, List.mem_cons_self, hm⟩ _ fun v o f B' H' g p m n => ?_
        obtain ⟨u1, u2⟩ := rp.unlock z hr g.gr.b (g.rp r1)
        have hB' := g.gr.b _ _ hr
        have na : ∀ {x}, B x = none → x ≠ a := fun b z => by rw [z, hr] at b; cases b
        refine ⟨u1, q v o f B' _ ⟨⟨g.gr.b, fun x u ex b mm => ?_, fun x o' u ex => ?_, fun x ex => ?_, fun x b ex => ?_⟩, u2.le, u2.bw⟩ p (OR.keep Sub.rfl'.le _ _ _ m fun x hx => ?_) fun x hx => ?_⟩
        · rw [upd_ne (na b)]
          exact g.gr.h x u (by rw [upd_ne (na b)]; exact ex) b mm
        · have ne : x ≠ a := fun w => by rw [w, z] at ex; cases ex
          rw [upd_ne ne]
          exact g.gr.z x o' u (by rw [upd_ne ne]; exact ex)
        · unfold upd
          split
          · simp
          · rename_i ne
            exact g.gr.p x (by rw [upd_ne ne]; exact ex)
        · exact g.gr.s x b (by rw [upd_ne (na b)]; exact ex)
        · have nb := (OR.foot _ _ _ m x hx).1
          exact ⟨upd_ne fun w => (by rw [w, hB'] at nb; cases nb), nb⟩
        · have := n x hx
          have ne : x ≠ a := fun w => by rw [w, upd_same] at this; cases this
          rw [upd_ne ne] at this
          exact this
      · -- it is locked already
        have r1 : Rp X.K (en.lock a o (.dK kvs)) B H σ Γ := by
          cases e1
          exact ⟨rp.le, rp.gr, rp.len, rp.bw, rp.sl, rp.me, fun q hq => by
            rcases List.mem_cons.mp hq with rfl | hq
            · exact z
            · exact rp.lks q hq⟩
        exact h _ σ B H r1 ⟨a, o, kvs, h1, List.mem_cons_self, hm⟩ Q fun v o f B' H' g p m n => q v o f B' H' ⟨g.gr, g.le, g.bw⟩ p m n
    · have z : H a = some (.frz o (.dK kvs)) := by
        rcases rp.le _ _ hr with z | ⟨_, _, e1, _⟩
        · exact z
        · cases e1
      have r1 : Rp X.K (en.lock a o (.dK kvs)) B H σ Γ := ⟨rp.le, rp.gr, rp.len, rp.bw, rp.sl, rp.me, fun q hq => by
        rcases List.mem_cons.mp hq with rfl | hq
        · exact z
        · exact rp.lks q hq⟩
      exact h _ σ B H r1 ⟨a, o, kvs, h1, List.mem_cons_self, hm⟩ Q fun v o f B' H' g p m n => q v o f B' H' ⟨g.gr, g.le, g.bw⟩ p m n
theorem pitc_items (hb : Bc W X bx) (i : Nat) {ds : List (Key × D)} {L : List D → Prop} {x : Str} {p apos tpos : Pos} {elts : List Expr} {kk : Nat} (h : L (itemsD ds)) (hN : bx.N[i]? = some x := by rfl)
    (hv : Vis bx.sc x := by first | exact Or.inl rfl | exact Or.inr (Or.inl rfl) | exact Or.inr (Or.inr rfl))
    (hd : (x == ("__debug__" : Str)) = false := by decide) (hcd : (x == ("__classdict__" : Str)) = false := by decide)
    (hbase : attributeBase (.Name x p) "items" X.env (eval (.Name x p) X.env) = eval (.Name x p) X.env := by rfl) (hline : (apos.endLine == pos.line) = true := by rfl) :
    PItC X (LkAt X.K i ds) (.Tuple elts kk tpos) (.Call (.Attribute (.Name x p) "items" apos) [] [] pos) Γ L := fun en σ B H rp ⟨a, o, kvs, h1, h2, h3⟩ R q =>
  ⟨_, pi_items (pe_var (by rw [hb.nn]; exact hN) (by rw [hb.sco]; exact hv) hd hcd) hbase hline, _, h1, a, o, kvs, rfl, rp.lks _ h2, q _ _ B H (.refl rp) h (iti_ok h2 h3)⟩
end
end Dn

/-! Dn5: what defs promise of data; their calls; dict comprehensions. -/
namespace Dn
open PySem PySem.Spec L2 RZ

/-- what a def makes of data: the arguments, what is wanted of the answer -/
abbrev Sg := List D → (O → Prop) → Prop
/-- .. as a promise of the layer beneath: no argument is lent -/
def spP (K : PySem.W.Frag) (n : Nat) (S : Sg) : Sp := fun vs H Q _ => ∃ B ds P, vs.length = n ∧ Le B H ∧ DqL K B vs ds ∧ S ds P ∧
  ∀ v o f B' H', Gr NoM B H B' H' → Le B' H' → P o → OR K B' H' v o f → (∀ a ∈ f, H a = none) → Q v H'
/-- .. the first argument is lent, I stays true of it; n more -/
def spB (K : PySem.W.Frag) (I : O → Prop) (n : Nat) (S : Sg) : Sp := fun vs H Q _ => ∃ M B h ws ds P, vs = h :: ws ∧ ws.length = n ∧ Le B H ∧ (∀ a, M a → H a ≠ none ∧ B a = none) ∧ BwOk K M (some (h, I)) B H ∧ DqL K B ws ds ∧ S ds P ∧
  ∀ v o f B' H', Gr M B H B' H' → Le B' H' → BwOk K M (some (h, I)) B' H' → P o → OR K B' H' v o f → (∀ a ∈ f, H a = none) → Q v H'

/-- a def keeps its promise, where nothing is being shown -/
structure Gn (W : Wd) (k : Nat) (f : Addr) (fd : FuncData) (ps : List Str) (sp : Sp) : Prop where
  lenOk : ∀ vs H Q E, sp vs H Q E → vs.length = ps.length
  runs : ∀ (A : Around) (outer : List Env) (st : Shared) (H : Hp) (ar : Args) (us : List Value) (vs : List V) (Q : VK) (E : XK), Room k A → A.guards = some [] → Env0 W.P W.w W.K W.mg W.base A outer st H → BindsTo st fd ar (ps.zip us) → Vals vs us → sp vs H Q E →
    codeAny (model W.P W.w) A (.call (.ref f) ar) (CR W.CX outer W.P W.w H st Q E) st
/-- the def at the global name x, with k levels left -/
def Df (W : Wd) (k : Nat) (x : Str) (sp : Sp) : Prop :=
  ∃ f fd ps, Gn W k f fd ps sp ∧ W.mg x = some (.ref f) ∧ PySem.W.keepIn W.K (.ref f) = true ∧ Binds W.K fd ps []
theorem Gn.less {W : Wd} {j k : Nat} {f : Addr} {fd : FuncData} {ps : List Str} {sp : Sp} (F : Gn W j f fd ps sp) (h : j ≤ k) : Gn W k f fd ps sp :=
  ⟨F.lenOk, fun A outer st H ar us vs Q E hr => F.runs A outer st H ar us vs Q E (hr.mono h)⟩
theorem Df.less {W : Wd} {j k : Nat} {x : Str} {sp : Sp} (F : Df W j x sp) (h : j ≤ k) : Df W k x sp := by
  obtain ⟨f, fd, ps, g, r⟩ := F
  exact ⟨f, fd, ps, g.less h, r⟩

section
variable {W : Wd} {X : Cx} {bx : Bx} {Γ : List Slot} {tg a b c e iter : Expr} {pos : Pos} {en : Ent} {B H : Hp} {σ : St} {R : O → Prop} {P : D → Prop}
/-- the callee runs -/
theorem gn_run (hb : Bc W X bx) (hc : W.calm) {k : Nat} {f : Addr} {fd : FuncData} {ps : List Str} {sp : Sp} (F : Gn W k f fd ps sp) (hk : k ≤ bx.k) (bn : Binds W.K fd ps []) {pins : List (Addr × Obj)} {st : Shared} {Q : VK} {us : List Value} {vs : List V}
    (I : Inv X pins σ H st) (r : Vals vs us) (h : sp vs H Q fun _ _ _ => False) : wpAny (model X.prog X.w) X.A (call (.ref f) us) (EP X pins σ Q) X.xe st := by
  have e0 := I.env0
  rw [hb.prog, hb.wo, hb.kk, hb.mo, hb.bas] at e0
  have hl : (us ++ []).length = ps.length := by
    rw [List.append_nil, ← r.length]
    exact F.lenOk _ _ _ _ h
  have kin : W.K.In st.heap := by rw [← hb.kk]; exact I.kIn
  have go := F.runs X.A X.stack st H ⟨us, []⟩ us vs Q (fun _ _ _ => False) (hb.room.mono hk) hb.gd e0 (by
    have := bn st us kin hl
    rw [List.append_nil] at this
    exact this) r h
  rw [← hb.prog, ← hb.wo] at go
  refine wpAny_call (codeAny_mono go fun res s2 hq => ?_)
  match res, hq with
  | .error er, hq => exact (hc _ _ _ _ _ hq).elim
  | .ok (.ret u), hq => exact I.after hq
  | .ok .next, hq => exact hq.elim
  | .ok .brk, hq => exact hq.elim
  | .ok .cont, hq => exact hq.elim
/-- f(e, ..) by its promise -/
theorem pe_df (hb : Bc W X bx) (hc : W.calm) {k : Nat} {x : Str} {sp : Sp} {p : Pos} {es : List Expr} (F : Df W k x sp) (hk : k ≤ bx.k) (hg : bx.sc.names.lookup x = some .globalImplicit) (hdb : (x == ("__debug__" : Str)) = false)
    (he : starEach (e :: es) X.env = (false, eval e X.env) :: starEach es X.env) (hpl : (backTo pos (starEach es X.env)).any (·.1) = false) {t : TA} (ha : PA X (e :: es) t) :
    PE X (.Call (.Name x p) (e :: es) [] pos) (fun σ H Q => t σ H fun vs H1 => sp vs H1 Q fun _ _ _ => False) := by
  obtain ⟨f, fd, ps, G, hm, kp, bn⟩ := F
  refine ⟨fun pins st σ H Q I h => ?_⟩
  refine wpAny_Call_Name_kw (ld_glob I (by show X.env.scope.names.lookup x = _; rw [hb.sco]; exact hg) (by rw [hb.mo]; exact hm) ?_ hdb)
  refine PySem.W.callWith_K (h₀ := X.base) I.ok.mod.kin (by rw [hb.kk]; exact kp) (thn (ha.run pos pins st σ H _ I h) fun us s1 ⟨vs, H1, I1, r, q⟩ => ⟨I1.kIn, ?_⟩) he hpl
  exact gn_run hb hc G hk bn I1 r q
theorem pe_df0 (hb : Bc W X bx) (hc : W.calm) {k : Nat} {x : Str} {sp : Sp} {p : Pos} (F : Df W k x sp) (hk : k ≤ bx.k) (hg : bx.sc.names.lookup x = some .globalImplicit) (hdb : (x == ("__debug__" : Str)) = false) :
    PE X (.Call (.Name x p) [] [] pos) (fun σ H Q => sp [] H Q fun _ _ _ => False) := by
  obtain ⟨f, fd, ps, G, hm, kp, bn⟩ := F
  refine ⟨fun pins st σ H Q I h => ?_⟩
  refine wpAny_Call_Name_kw (ld_glob I (by show X.env.scope.names.lookup x = _; rw [hb.sco]; exact hg) (by rw [hb.mo]; exact hm) ?_ hdb)
  exact PySem.W.callWith_K0 I.kIn (by rw [hb.kk]; exact kp) (gn_run (us := []) hb hc G hk bn I .nil h)

theorem po_call (hb : Bc W X bx) (hc : W.calm) {k n : Nat} {x : Str} {S : Sg} {p : Pos} {es : List Expr} (F : Df W k x (spP W.K n S)) (h : PL X (e :: es) Γ fun ds => ds.length = n ∧ S ds R) (hk : k ≤ bx.k := by decide) (hg : bx.sc.names.lookup x = some .globalImplicit := by rfl)
    (hdb : (x == ("__debug__" : Str)) = false := by decide) (he : starEach (e :: es) X.env = (false, eval e X.env) :: starEach es X.env := by rfl) (hpl : (backTo pos (starEach es X.env)).any (·.1) = false := by rfl) :
    PO X (.Call (.Name x p) (e :: es) [] pos) Γ R := fun en σ B H rp Q q =>
  ⟨_, pe_df hb hc F hk hg hdb he hpl (ba X _), h en σ B H rp _ fun vs ds B1 H1 g1 ⟨p1, p2⟩ m => ⟨B1, ds, R, by rw [m.length]; exact p1, g1.le, by rw [← hb.kk]; exact m, p2, fun v o f B2 H2 g2 le2 ro r2 fr => by
    rw [← hb.kk] at r2
    refine q v o f B2 H2 (g1.tr (Go.of (g1.rp rp) g2 le2)) ro r2 fun a ha => ?_
    cases z : H a with
    | none => rfl
    | some u => exact absurd (fr a ha) (g1.gr.p a (by rw [z]; simp))⟩⟩
theorem pp_call (hb : Bc W X bx) (hc : W.calm) {k n : Nat} {x : Str} {S : Sg} {p : Pos} {es : List Expr} (F : Df W k x (spP W.K n S)) (h : PL X (e :: es) Γ fun ds => ds.length = n ∧ S ds fun o => P o.toD) (hk : k ≤ bx.k := by decide) (hg : bx.sc.names.lookup x = some .globalImplicit := by rfl)
    (hdb : (x == ("__debug__" : Str)) = false := by decide) (he : starEach (e :: es) X.env = (false, eval e X.env) :: starEach es X.env := by rfl) (hpl : (backTo pos (starEach es X.env)).any (·.1) = false := by rfl) :
    PP X (.Call (.Name x p) (e :: es) [] pos) Γ P := (po_call hb hc F h hk hg hdb he hpl).pp
/-- f(h, e, ..), h what this def was lent itself -/
theorem po_callB (hb : Bc W X bx) (hc : W.calm) {I : O → Prop} {k n : Nat} {x h0 : Str} {S : Sg} {p p0 : Pos} {es : List Expr} (i : Nat) (F : Df W k x (spB W.K I n S)) (hΓ : Γ[i]? = some (.bor I)) (h : PL X es Γ fun ds => ds.length = n ∧ S ds R) (hk : k ≤ bx.k := by decide)
    (hg : bx.sc.names.lookup x = some .globalImplicit := by rfl) (hN : bx.N[i]? = some h0 := by rfl) (hv : Vis bx.sc h0 := by first | exact Or.inl rfl | exact Or.inr (Or.inl rfl) | exact Or.inr (Or.inr rfl))
    (hd : (h0 == ("__debug__" : Str)) = false := by decide) (hcd : (h0 == ("__classdict__" : Str)) = false := by decide)
    (hdb : (x == ("__debug__" : Str)) = false := by decide) (he : starEach (.Name h0 p0 :: es) X.env = (false, eval (.Name h0 p0) X.env) :: starEach es X.env := by rfl) (hpl : (backTo pos (starEach es X.env)).any (·.1) = false := by rfl) :
    PO X (.Call (.Name x p) (.Name h0 p0 :: es) [] pos) Γ R := fun en σ B H rp Q q => by
  obtain ⟨v0, h1, h2⟩ := rp.lent hΓ
  refine ⟨_, pe_df hb hc F hk hg hdb he hpl (pa_cons (pe_var (by rw [hb.nn]; exact hN) (by rw [hb.sco]; exact hv) hd hcd) (ba X es) he), v0, h1, h en σ B H rp _ fun vs ds B1 H1 g1 ⟨p1, p2⟩ m => ?_⟩
  have rp1 := g1.rp rp
  have w := g1.bw
  rw [h2] at w
  refine ⟨en.M, B1, v0, vs, ds, R, rfl, by rw [m.length]; exact p1, g1.le, fun a ha => ?_, by rw [← hb.kk]; exact w, by rw [← hb.kk]; exact m, p2, fun v o f B2 H2 g2 le2 w2 ro r2 fr => ?_⟩
  · obtain ⟨u1, u2⟩ := rp.me a ha
    exact ⟨rp1.gr.p a u1, rp1.gr.s a u2 u1⟩
  · rw [← hb.kk] at r2 w2
    refine q v o f B2 H2 (g1.tr ⟨g2, le2, by rw [h2]; exact w2⟩) ro r2 fun a ha => ?_
    cases z : H a with
    | none => rfl
    | some u => exact absurd (fr a ha) (g1.gr.p a (by rw [z]; simp))
theorem pp_callB (hb : Bc W X bx) (hc : W.calm) {I : O → Prop} {k n : Nat} {x h0 : Str} {S : Sg} {p p0 : Pos} {es : List Expr} (i : Nat) (F : Df W k x (spB W.K I n S)) (hΓ : Γ[i]? = some (.bor I)) (h : PL X es Γ fun ds => ds.length = n ∧ S ds fun o => P o.toD) (hk : k ≤ bx.k := by decide)
    (hg : bx.sc.names.lookup x = some .globalImplicit := by rfl) (hN : bx.N[i]? = some h0 := by rfl) (hv : Vis bx.sc h0 := by first | exact Or.inl rfl | exact Or.inr (Or.inl rfl) | exact Or.inr (Or.inr rfl))
    (hd : (h0 == ("__debug__" : Str)) = false := by decide) (hcd : (h0 == ("__classdict__" : Str)) = false := by decide)
    (hdb : (x == ("__debug__" : Str)) = false := by decide) (he : starEach (.Name h0 p0 :: es) X.env = (false, eval (.Name h0 p0) X.env) :: starEach es X.env := by rfl) (hpl : (backTo pos (starEach es X.env)).any (·.1) = false := by rfl) :
    PP X (.Call (.Name x p) (.Name h0 p0 :: es) [] pos) Γ P := (po_callB hb hc i F hΓ h hk hg hN hv hd hcd hdb he hpl).pp

/-! ### dict comprehensions -/
def DcOk (W : Wd) (bx : Bx) (scope : Scope) (tg : Expr) (ifs : List Expr) (kx vx : Expr) (Γ : List Slot) (vs : List Nat) (R : O → Prop) (ds : List D) : Prop :=
  ds.length ≤ sizeLine ∧ ∃ J : Nat → List (Key × D) → Prop, J 0 [] ∧ (∀ acc, J ds.length acc → R (O.dc acc)) ∧
    ∀ i d acc, ds[i]? = some d → J i acc → acc.length ≤ i → Turn1 W bx scope tg ifs Γ vs d (J (i + 1) acc) fun Γ2 => ∃ KS : Key → Prop, (∀ X', Bc W X' (bx.blk scope) → PP X' kx Γ2 fun kd => ∃ k, kd = kD k ∧ KS k) ∧
      ∀ k, KS k → ∀ X', Bc W X' (bx.blk scope) → PP X' vx Γ2 fun o => J (i + 1) (dPut acc k o)
theorem kd_dq {K : PySem.W.Frag} {B : Hp} {v : V} {k : Key} (h : Dq K B v (kD k)) : v = kV k := by
  cases k with
  | inl i => cases h; rfl
  | inr x => cases h; rfl
theorem dPut_len (kvs : List (Key × D)) (k : Key) (v : D) : (dPut kvs k v).length ≤ kvs.length + 1 := by
  unfold dPut
  split <;> simp
def DcInv (K : PySem.W.Frag) (en : Ent) (B1 H1 : Hp) (L : Addr) (J : Nat → List (Key × D) → Prop) (i : Nat) (H : Hp) : Prop :=
  ∃ B vals acc, Go K en B1 H1 B H ∧ H L = some (.dK vals) ∧ B L = none ∧ DqM K B vals acc ∧ acc.length ≤ i ∧ J i acc
variable {scope : Scope} {own : List (Str × Nat)} {ifs : List Expr} {kx vx : Expr}
theorem dc_go (hb : Bc W X bx) (hc : W.calm) (rp : Rp X.K en B H σ Γ) (hi : ∀ R' : It → Hp → Prop, (∀ J ds B' H', Go X.K en B H B' H' → DcOk W bx scope tg ifs kx vx Γ (own.map (·.2)) R ds → ItOk X.K J en B' ds → R' J H') → bI X tg iter σ H R')
    {Q : VK} (q : ∀ v o f B' H', Go X.K en B H B' H' → R o → OR X.K B' H' v o f → (∀ a ∈ f, H a = none) → Q v H') :
    tDc (bI X tg iter) (fun v σ H Q => ∀ s H0 C cl fp, bG (blks X scope s H0 C cl fp) tg v σ H Q) (fun σ H Q => ∀ s H0 C cl fp, ∃ t, PTs (blks X scope s H0 C cl fp) ifs t ∧ t σ H Q)
      (fun σ H Q => ∀ s H0 C cl fp, bE (blks X scope s H0 C cl fp) kx σ H Q) (fun σ H Q => ∀ s H0 C cl fp, bE (blks X scope s H0 C cl fp) vx σ H Q) (own.map (·.2)) σ H Q := by
  refine hi _ fun J ds B1 H1 g1 ⟨hz, Jv, j0, je, jt⟩ it D hD => ?_
  have rp1 := g1.rp rp
  have nM : ∀ a, H1 a = none → ¬ en.M a := fun a n m => rp1.gr.p a ((rp1.me a m).1) n
  have hHn : ∀ a, H1 a = none → H a = none := fun a n => by
    cases z : H a with
    | none => rfl
    | some u => exact absurd n (g1.gr.p a (by rw [z]; simp))
  have lkGo : ∀ {B' H'}, Go X.K en B1 H1 B' H' → LkOk en H' := fun g p hp => g.gr.z _ _ _ (rp1.lks p hp)
  refine ⟨fun i m H => m = ds.length - i ∧ i ≤ ds.length ∧ DcInv X.K en B1 H1 D Jv i H, ⟨ds.length, by simp, Nat.zero_le _, B1, [], [], ?_, upd_same, none_of_le g1.le hD, .nil, Nat.zero_le _, j0⟩, ?_⟩
  · exact (Go.refl rp1).wr rp1 hD (none_of_le g1.le hD)
  rintro i m H2 ⟨rfl, hi, B2, vals, acc, g2, hL, bL, orl, hlen, hj⟩
  by_cases hlt : i < ds.length
  · refine .inr ⟨it.go i B2 H2 g2.gr.b g2.le (lkGo g2) hlt, DcInv X.K en B1 H1 D Jv (i + 1), fun H' p' => ⟨ds.length - (i + 1), by omega, rfl, hlt, p'⟩, fun x H3 y => ?_⟩
    obtain ⟨d, hd⟩ : ∃ d, ds[i]? = some d := ⟨ds[i], by simp [hlt]⟩
    obtain ⟨B3, gr3, le3, hx⟩ := it.yld i d B2 H2 x H3 g2.gr.b g2.le (lkGo g2) hd y
    have rp2 := g2.rp rp1
    have g3 : Go X.K en B2 H2 B3 H3 := Go.of rp2 gr3 le3
    have rp3 := (g3.rp rp2).wipe (own.map (·.2))
    obtain ⟨Γ2, hg, T, ht, hno, hyes⟩ := jt i d acc hd hj hlen
    have keep : ∀ {B' H' : Hp}, Go X.K en B2 H2 B' H' → H' D = some (.dK vals) ∧ B' D = none ∧ DqM X.K B' vals acc := fun {B' H'} g =>
      ⟨g.gr.h D _ hL bL (nM D hD), g.gr.s D bL (by rw [hL]; simp), orl.up g.gr.b.le⟩
    have after : ∀ σ2, Rp X.K en B3 H3 σ2 Γ2 → (fun σ H Q => ∀ s H0 C cl fp, ∃ t, PTs (blks X scope s H0 C cl fp) ifs t ∧ t σ H Q : TT) σ2 H3 fun b H4 =>
        if b = true then (fun σ H Q => ∀ s H0 C cl fp, bE (blks X scope s H0 C cl fp) kx σ H Q : TE) σ2 H4 fun y H5 => (fun σ H Q => ∀ s H0 C cl fp, bE (blks X scope s H0 C cl fp) vx σ H Q : TE) σ2 H5 fun z H6 =>
          ∃ kvs k, y = kV k ∧ H6 D = some (.dK kvs) ∧ kvs.length < sizeLine ∧ DcInv X.K en B1 H1 D Jv (i + 1) (upd H6 D (.dK (putK kvs k z))) else DcInv X.K en B1 H1 D Jv (i + 1) H4 := fun σ2 r2 => by
      intro s H0 C cl fp
      refine ht (blks X scope s H0 C cl fp) (hb.blk hc) en σ2 B3 H3 r2 _ fun b B4 H4 g4 tb => ?_
      have g24 := g3.tr g4
      cases b with
      | false =>
        rw [if_neg Bool.false_ne_true]
        obtain ⟨k1, k2, k3⟩ := keep g24
        exact ⟨B4, vals, acc, g2.tr g24, k1, k2, k3, Nat.le_succ_of_le hlen, hno tb⟩
      | true =>
        rw [if_pos rfl]
        obtain ⟨KS, hk1, hk2⟩ := hyes tb
        intro s H0 C cl fp
        refine hk1 (blks X scope s H0 C cl fp) (hb.blk hc) en σ2 B4 H4 (Go.rp g4 r2) _ fun y kd B5 H5 g5 ⟨k, ek, jk⟩ mk => ?_
        subst ek
        have ey := kd_dq mk
        intro s H0 C cl fp
        refine hk2 k jk (blks X scope s H0 C cl fp) (hb.blk hc) en σ2 B5 H5 (Go.rp g5 (Go.rp g4 r2)) _ fun z o B6 H6 g6 jo mo => ?_
        have g26 := g24.tr (g5.tr g6)
        obtain ⟨k1, k2, k3⟩ := keep g26
        have hl : vals.length = acc.length := k3.length
        refine ⟨vals, k, ey, k1, by omega, B6, putK vals k z, dPut acc k o, (g2.tr g26).wr rp1 hD k2, upd_same, k2, k3.put k mo, ?_, jo⟩
        have := dPut_len acc k o
        omega
    intro s H0 C cl fp
    refine hg (blks X scope s H0 C cl fp) (hb.blk hc) en _ B3 H3 x rp3 hx _ fun σ2 Γ2' r2 bt e => ?_
    subst e
    exact ⟨wipe_but bt, after σ2 r2⟩
  · have e : i = ds.length := by omega
    subst e
    refine .inl ⟨it.stop _ B2 H2 g2.gr.b g2.le (lkGo g2) (Nat.le_refl _) (Nat.le_refl _), q _ (O.dc acc) [D] B2 H2 (g1.tr g2) (je acc hj) (.dic bL hL (ORM.vals orl) (by simp)) fun a ha => ?_⟩
    have e : a = D := by simpa using ha
    subst e
    exact hHn a hD
end
end Dn

/-! Dn6: statements; a def's body. -/
namespace Dn
open PySem PySem.Spec L2 RZ

/-! ### the best reading of statements -/
def bS (X : Cx) (st : Stmt) : TS := fun D σ H => ∃ t, PS X st t ∧ t D σ H
def bSs (X : Cx) (st : List Stmt) : TS := fun D σ H => ∃ t, PSs X st t ∧ t D σ H
theorem bs (X : Cx) (st : Stmt) : PS X st (bS X st) := ⟨fun pins s σ H D I ⟨_, h, q⟩ => h.run pins s σ H D I q⟩
theorem bss (X : Cx) (st : List Stmt) : PSs X st (bSs X st) := ⟨fun pins s σ H D I ⟨_, h, q⟩ => h.run pins s σ H D I q⟩

/-- an exception: its class's name, its fields -/
abbrev Xn := Str × List (Str × D)
def XR (K : PySem.W.Frag) (mg : Str → Option Value) (B : Hp) (cls : Value) (d : Option Addr) (x : Xn) : Prop := ∃ (C dd : Addr) (fs : List (Str × V)), cls = .ref C ∧ mg x.1 = some (.ref C) ∧ d = some dd ∧ B dd = some (.xd fs) ∧
  fs.map (·.1) = x.2.map (·.1) ∧ DqL K B (fs.map (·.2)) (x.2.map (·.2))
theorem XR.up {K : PySem.W.Frag} {mg : Str → Option Value} {B B' : Hp} {cls : Value} {d : Option Addr} {x : Xn} (h : XR K mg B cls d x) (s : Sub B B') : XR K mg B' cls d x := by
  obtain ⟨C, dd, fs, h1, h2, h3, h4, h5, h6⟩ := h
  exact ⟨C, dd, fs, h1, h2, h3, s _ _ h4, h5, h6.up s.le⟩
/-- what is wanted behind a statement, by the slots -/
structure En where
  nx : List Slot → Prop
  rt : O → Prop
  bk : List Slot → Prop := fun _ => False
  ct : List Slot → Prop := fun _ => False
  ex : List Slot → Xn → Prop := fun _ _ => False
theorem takes_no {X : Cx} : Takes X (fun _ _ _ _ => False) := fun _ _ x => by
  obtain ⟨_, _, _, _, _, _, _, _, _, _, _, _, _, _, _, _, z⟩ := x
  exact z.elim
/-- what an exception is wished to be, in the heap -/
def XOk (X : Cx) (e : Ent) (B : Hp) (Y : List Slot → Xn → Prop) : Prop := ∃ Wx : WX, Takes X Wx ∧ ∀ B' H' σ' Γ' cls d x, Sub B B' → Rp X.K e B' H' σ' Γ' → XR X.K X.mg B' cls d x → Y Γ' x → Wx cls d σ' H'
theorem XOk.no {X : Cx} {e : Ent} {B : Hp} : XOk X e B fun _ _ => False := ⟨_, takes_no, fun _ _ _ _ _ _ _ _ _ _ z => z⟩
theorem XOk.up {X : Cx} {e : Ent} {B B1 : Hp} {Y : List Slot → Xn → Prop} (h : XOk X e B Y) (s : Sub B B1) : XOk X e B1 Y := by
  obtain ⟨Wx, h1, h2⟩ := h
  exact ⟨Wx, h1, fun B' H' σ' Γ' cls d x z => h2 B' H' σ' Γ' cls d x (s.tr z)⟩
/-- .. by the layer beneath; B: the data at the statement's start -/
structure EnOk (X : Cx) (e : Ent) (B : Hp) (E : En) (D : Ends) : Prop where
  nx : ∀ B' H' σ' Γ', Sub B B' → Rp X.K e B' H' σ' Γ' → E.nx Γ' → D.nx σ' H'
  bk : ∀ B' H' σ' Γ', Sub B B' → Rp X.K e B' H' σ' Γ' → E.bk Γ' → D.bk σ' H'
  ct : ∀ B' H' σ' Γ', Sub B B' → Rp X.K e B' H' σ' Γ' → E.ct Γ' → D.ct σ' H'
  rt : ∀ v o f B' H', Sub B B' → Gr e.M e.B e.H B' H' → Le B' H' → BwOk X.K e.M e.bw B' H' → LkOk e H' → E.rt o → OR X.K B' H' v o f → (∀ a ∈ f, e.H a = none) → D.rt v H'
  ex : XOk X e B E.ex
theorem EnOk.up {X : Cx} {e : Ent} {B B1 : Hp} {E : En} {D : Ends} (h : EnOk X e B E D) (s : Sub B B1) : EnOk X e B1 E D :=
  ⟨fun B' H' σ' Γ' z => h.nx B' H' σ' Γ' (s.tr z), fun B' H' σ' Γ' z => h.bk B' H' σ' Γ' (s.tr z), fun B' H' σ' Γ' z => h.ct B' H' σ' Γ' (s.tr z), fun v o f B' H' z => h.rt v o f B' H' (s.tr z), h.ex.up s⟩
/-- another end where the statement runs on -/
theorem EnOk.to {X : Cx} {e : Ent} {B : Hp} {E : En} {D : Ends} (h : EnOk X e B E D) {N : List Slot → Prop} {n : St → Hp → Prop} (k : ∀ B' H' σ' Γ', Sub B B' → Rp X.K e B' H' σ' Γ' → N Γ' → n σ' H') : EnOk X e B { E with nx := N } { D with nx := n } :=
  ⟨k, h.bk, h.ct, h.rt, h.ex⟩
def WS (X : Cx) (st : Stmt) (Γ : List Slot) (E : En) : Prop := ∀ en σ B H D, Rp X.K en B H σ Γ → EnOk X en B E D → bS X st D σ H
def WSs (X : Cx) (st : List Stmt) (Γ : List Slot) (E : En) : Prop := ∀ en σ B H D, Rp X.K en B H σ Γ → EnOk X en B E D → bSs X st D σ H
/-- under C -/
def WSC (X : Cx) (C : Ent → St → Hp → Prop) (st : Stmt) (Γ : List Slot) (E : En) : Prop := ∀ en σ B H D, Rp X.K en B H σ Γ → C en σ B → EnOk X en B E D → bS X st D σ H

section
variable {W : Wd} {X : Cx} {bx : Bx} {Γ : List Slot} {tg a b c e iter : Expr} {pos : Pos} {en : Ent} {B H : Hp} {σ : St} {R : O → Prop} {P : D → Prop} {st : Stmt} {rest body s1 s2 : List Stmt} {E : En}
theorem wss_nil (h : E.nx Γ) : WSs X [] Γ E := fun en σ B H D rp eo => ⟨_, pss_nil, eo.nx B H σ Γ Sub.rfl' rp h⟩
theorem wss_cons (h : WS X st Γ { E with nx := fun Γ' => WSs X rest Γ' E }) : WSs X (st :: rest) Γ E := fun en σ B H D rp eo =>
  ⟨_, pss_cons (bs X st) (bss X rest), h en σ B H { D with nx := bSs X rest D } rp (eo.to fun B' H' σ' Γ' s r w => w en σ' B' H' D r (eo.up s))⟩
/-- the statement's ends are told first -/
theorem wss_cut (M : List Slot → Prop) (h : WS X st Γ { E with nx := M }) (k : ∀ Γ', M Γ' → WSs X rest Γ' E) : WSs X (st :: rest) Γ E := fun en σ B H D rp eo =>
  ⟨_, pss_cons (bs X st) (bss X rest), h en σ B H { D with nx := bSs X rest D } rp (eo.to fun B' H' σ' Γ' s r w => k Γ' w en σ' B' H' D r (eo.up s))⟩
theorem ws_pass (h : E.nx Γ) : WS X (.Pass pos) Γ E := fun en σ B H D rp eo => ⟨_, ps_pass, eo.nx B H σ Γ Sub.rfl' rp h⟩
theorem ws_break (h : E.bk Γ) : WS X (.Break pos) Γ E := fun en σ B H D rp eo => ⟨_, ps_break, eo.bk B H σ Γ Sub.rfl' rp h⟩
theorem ws_cont (h : E.ct Γ) : WS X (.Continue pos) Γ E := fun en σ B H D rp eo => ⟨_, ps_continue, eo.ct B H σ Γ Sub.rfl' rp h⟩
theorem ws_doc {x j pos'} (h : E.nx Γ) : WS X (.Expr (.Constant (.str x) j pos) pos') Γ E := fun en σ B H D rp eo => ⟨_, ps_doc, eo.nx B H σ Γ Sub.rfl' rp h⟩
theorem ws_ret (h : PO X e Γ E.rt) : WS X (.Return (some e) pos) Γ E := fun en σ B H D rp eo =>
  ⟨_, ps_ret (be X e), h en σ B H rp _ fun v o f B' H' g p m n => eo.rt v o f B' H' g.gr.b (rp.gr.tr g.gr) g.le g.bw (g.rp rp).lks p m fun x hx => by
    cases z : en.H x with
    | none => rfl
    | some u => exact absurd (n x hx) (rp.gr.p x (by rw [z]; simp))⟩
theorem ws_retN (h : E.rt (.val .non)) : WS X (.Return none pos) Γ E := fun en σ B H D rp eo =>
  ⟨_, ps_retN, eo.rt .non (.val .non) [] B H Sub.rfl' rp.gr rp.le rp.bw rp.lks h (.val .non) fun x hx => by cases hx⟩
/-- a tree of its own is handed out -/
theorem ws_retO (hb : Bc W X bx) (i : Nat) {o : O} {x : Str} {p : Pos} (hΓ : Γ[i]? = some (.own o)) (h : E.rt o) (hN : bx.N[i]? = some x := by rfl) (hv : Vis bx.sc x := by first | exact Or.inl rfl | exact Or.inr (Or.inl rfl) | exact Or.inr (Or.inr rfl))
    (hd : (x == ("__debug__" : Str)) = false := by decide) (hcd : (x == ("__classdict__" : Str)) = false := by decide) : WS X (.Return (some (.Name x p)) pos) Γ E := fun en σ B H D rp eo => by
  obtain ⟨F, f1, f2, f3⟩ := rp.sl
  have w := f3 i
  rw [hΓ] at w
  obtain ⟨v, h1, h2⟩ := w
  exact ⟨_, ps_ret (pe_var (by rw [hb.nn]; exact hN) (by rw [hb.sco]; exact hv) hd hcd), v, h1, eo.rt v o _ B H Sub.rfl' rp.gr rp.le rp.bw rp.lks h h2 (f2 i)⟩
theorem ws_if (h : PB X c Γ fun k => if k = true then WSs X s1 Γ E else WSs X s2 Γ E) : WS X (.If c s1 s2 pos) Γ E := fun en σ B H D rp eo =>
  ⟨_, ps_if (bt X c) (bss X s1) (bss X s2), h en σ B H rp _ fun k B' H' g t => by
    cases k with
    | true => exact t en σ B' H' D (g.rp rp) (eo.up g.gr.b)
    | false => exact t en σ B' H' D (g.rp rp) (eo.up g.gr.b)⟩
theorem ws_drop (h : PR X e Γ fun _ => E.nx Γ) (hs : swapsWith e none pos.line X.env = pure false := by rfl) : WS X (.Expr e pos) Γ E := fun en σ B H D rp eo =>
  ⟨_, ps_expr (be X e) hs, h en σ B H rp _ fun v o f B' H' g p m n => eo.nx B' H' σ Γ g.gr.b (g.rp rp) p⟩

/-! ### several slots are set -/
def Sl (K : PySem.W.Frag) (e : Ent) (B H : Hp) (σ : St) (Γ : List Slot) (F : Nat → List Addr) : Prop :=
  (∀ i j a, a ∈ F i → a ∈ F j → i = j) ∧ (∀ i, ∀ a ∈ F i, e.H a = none) ∧ ∀ i, SlR K e B H σ[i]? (F i) Γ[i]?
theorem Sl.put {K : PySem.W.Frag} {e : Ent} {B H : Hp} {σ : St} {Γ : List Slot} {F : Nat → List Addr} (s : Sl K e B H σ Γ F) (hl : σ.length = Γ.length) (i : Nat) {v : V} {o : O} {f : List Addr} (h : OR K B H v o f) (hf : ∀ a ∈ f, e.H a = none) (ap : ∀ j, j ≠ i → ∀ a ∈ f, a ∉ F j) :
    Sl K e B H (σ.set i (some v)) (Γ.set i (.own o)) fun j => if j = i then (if i < Γ.length then f else []) else F j := by
  obtain ⟨f1, f2, f3⟩ := s
  refine ⟨fun j k a hj hk => ?_, fun j a ha => ?_, fun j => ?_⟩
  · by_cases e1 : j = i
    · by_cases e2 : k = i
      · exact e1.trans e2.symm
      · simp only [if_pos e1] at hj
        simp only [if_neg e2] at hk
        split at hj
        · exact absurd hk (ap k e2 a hj)
        · cases hj
    · by_cases e2 : k = i
      · simp only [if_neg e1] at hj
        simp only [if_pos e2] at hk
        split at hk
        · exact absurd hj (ap j e1 a hk)
        · cases hk
      · simp only [if_neg e1] at hj
        simp only [if_neg e2] at hk
        exact f1 j k a hj hk
  · by_cases e1 : j = i
    · simp only [if_pos e1] at ha
      split at ha
      · exact hf a ha
      · cases ha
    · simp only [if_neg e1] at ha
      exact f2 j a ha
  · rw [get_set, get_set]
    by_cases e1 : j = i
    · subst e1
      by_cases q : j < Γ.length
      · have q' : j < σ.length := by rw [hl]; exact q
        simp only [q, q', and_self, if_true]
        exact ⟨v, rfl, h⟩
      · have q' : ¬ j < σ.length := by rw [hl]; exact q
        have z : Γ[j]? = none := List.getElem?_eq_none (Nat.le_of_not_lt q)
        simp only [q, q', and_false, if_false, if_true]
        rw [z]
        exact rfl
    · have n1 : ¬ (i = j ∧ j < Γ.length) := fun z => e1 z.1.symm
      have n2 : ¬ (i = j ∧ j < σ.length) := fun z => e1 z.1.symm
      simp only [if_neg e1, if_neg n1, if_neg n2]
      exact f3 j
theorem Rp.sl_at {K : PySem.W.Frag} {e : Ent} {B H B' H' : Hp} {σ : St} {Γ : List Slot} (r : Rp K e B H σ Γ) (g : Gr e.M B H B' H') : ∃ F, Sl K e B' H' σ Γ F ∧ ∀ j, ∀ a ∈ F j, H a ≠ none := by
  obtain ⟨F, f1, f2, f3⟩ := r.sl
  refine ⟨F, ⟨f1, f2, fun j => (f3 j).keep g.b.le fun a ha => ?_⟩, fun j a ha => ((f3 j).foot a ha).2⟩
  obtain ⟨h1, h2⟩ := (f3 j).foot a ha
  have n : ¬ e.M a := fun m => (r.me a m).1 (f2 j a ha)
  cases q : H a with
  | none => exact absurd q h2
  | some u => exact ⟨g.h a u q h1 n, g.s a h1 h2⟩
theorem Rp.growSet2 {K : PySem.W.Frag} {e : Ent} {B H B' H' : Hp} {σ : St} {Γ : List Slot} (r : Rp K e B H σ Γ) (g : Gr e.M B H B' H') (le : Le B' H') (w : BwOk K e.M e.bw B' H') {i j : Nat} (hij : i ≠ j) {v1 v2 : V} {o1 o2 : O} {f1 f2 : List Addr}
    (h1 : OR K B' H' v1 o1 f1) (h2 : OR K B' H' v2 o2 f2) (n1 : ∀ a ∈ f1, H a = none) (n2 : ∀ a ∈ f2, H a = none) (d : ∀ a ∈ f1, a ∉ f2) : Rp K e B' H' ((σ.set i (some v1)).set j (some v2)) ((Γ.set i (.own o1)).set j (.own o2)) := by
  obtain ⟨F, s, hF⟩ := r.sl_at g
  have fr : ∀ {f : List Addr}, (∀ a ∈ f, H a = none) → ∀ a ∈ f, e.H a = none := fun n a ha => by
    cases q : e.H a with
    | none => rfl
    | some u => exact absurd (n a ha) (r.gr.p a (by rw [q]; simp))
  have s1 := s.put r.len i h1 (fr n1) fun k _ a ha m => hF k a m (n1 a ha)
  have s2 := s1.put (by simpa using r.len) j h2 (fr n2) fun k _ a ha m => by
    by_cases e1 : k = i
    · simp only [if_pos e1] at m
      split at m
      · exact d a m ha
      · cases m
    · simp only [if_neg e1] at m
      exact hF k a m (n2 a ha)
  exact ⟨le, r.gr.tr g, by simpa using r.len, w, ⟨_, s2⟩, r.me, fun p hp => g.z _ _ _ (r.lks p hp)⟩
theorem Rp.growSet3 {K : PySem.W.Frag} {e : Ent} {B H B' H' : Hp} {σ : St} {Γ : List Slot} (r : Rp K e B H σ Γ) (g : Gr e.M B H B' H') (le : Le B' H') (w : BwOk K e.M e.bw B' H') {i j l : Nat} {v1 v2 v3 : V} {o1 o2 o3 : O} {f1 f2 f3 : List Addr}
    (h1 : OR K B' H' v1 o1 f1) (h2 : OR K B' H' v2 o2 f2) (h3 : OR K B' H' v3 o3 f3) (n1 : ∀ a ∈ f1, H a = none) (n2 : ∀ a ∈ f2, H a = none) (n3 : ∀ a ∈ f3, H a = none) (d : ∀ a ∈ f1, a ∉ f2) (d2 : ∀ a ∈ f1, a ∉ f3) (d3 : ∀ a ∈ f2, a ∉ f3) :
    Rp K e B' H' (((σ.set i (some v1)).set j (some v2)).set l (some v3)) (((Γ.set i (.own o1)).set j (.own o2)).set l (.own o3)) := by
  obtain ⟨F, s, hF⟩ := r.sl_at g
  have fr : ∀ {f : List Addr}, (∀ a ∈ f, H a = none) → ∀ a ∈ f, e.H a = none := fun n a ha => by
    cases q : e.H a with
    | none => rfl
    | some u => exact absurd (n a ha) (r.gr.p a (by rw [q]; simp))
  have s1 := s.put r.len i h1 (fr n1) fun k _ a ha m => hF k a m (n1 a ha)
  have s2 := s1.put (by simpa using r.len) j h2 (fr n2) fun k _ a ha m => by
    by_cases e1 : k = i
    · simp only [if_pos e1] at m
      split at m
      · exact d a m ha
      · cases m
    · simp only [if_neg e1] at m
      exact hF k a m (n2 a ha)
  have s3 := s2.put (by simpa using r.len) l h3 (fr n3) fun k _ a ha m => by
    by_cases e2 : k = j
    · simp only [if_pos e2] at m
      split at m
      · exact d3 a m ha
      · cases m
    · simp only [if_neg e2] at m
      by_cases e1 : k = i
      · simp only [if_pos e1] at m
        split at m
        · exact d2 a m ha
        · cases m
      · simp only [if_neg e1] at m
        exact hF k a m (n3 a ha)
  exact ⟨le, r.gr.tr g, by simpa using r.len, w, ⟨_, s3⟩, r.me, fun p hp => g.z _ _ _ (r.lks p hp)⟩

/-! ### assignment -/
/-- name = e; the slot i -/
theorem ws_set (hb : Bc W X bx) (i : Nat) {x : Str} {p : Pos} (h : PO X e Γ fun o => E.nx (Γ.set i (.own o))) (hN : bx.N[i]? = some x := by rfl) (hx : Loc bx.sc x := by first | exact Or.inl rfl | exact Or.inr rfl)
    (hf : bx.fn x = true ∨ bx.sc.names.lookup x = some .local := by first | exact Or.inl rfl | exact Or.inr rfl) (hs : swapsWith e (some (.Name x p)) pos.line X.env = pure false := by rfl) : WS X (.Assign [.Name x p] e pos) Γ E := fun en σ B H D rp eo =>
  ⟨_, ps_set (by rw [hb.nn]; exact hb.nd) (by rw [hb.nn]; exact hN) (by rw [hb.sco]; exact hx) (be X e) hs (by rw [hb.fno, hb.sco]; exact hf), h en σ B H rp _ fun v o f B' H' g q m n =>
    eo.nx B' H' _ _ g.gr.b (rp.growSet g.gr g.le g.bw i m n) q⟩
theorem swaps_scope {v : Expr} {t : Option Expr} {l : Nat} {env env' : Env} (h : env.scope = env'.scope) : swapsWith v t l env = swapsWith v t l env' := by
  have k : env.kindOf = env'.kindOf := by
    funext x
    unfold Env.kindOf
    rw [h]
  have b : env.blockKind = env'.blockKind := by
    unfold Env.blockKind
    rw [h]
  unfold swapsWith
  rw [k, b, h]
/-- .. e a comprehension on one line with it -/
theorem ws_setLc {C : Ent → St → Hp → Prop} {elt : Expr} {ifs : List Expr} {scope : Scope} {cpos p : Pos} (hb : Bc W X bx) (hc : W.calm) (own : List (Str × Nat)) (i : Nat) {x : Str}
    (h : PItC X C tg iter Γ (LcOk W bx scope tg ifs elt Γ (own.map (·.2)) fun o => E.nx (Γ.set i (.own o)))) (hk : blkC bx.N bx.sc scope own = true := by first | (dsimp only; decide +kernel) | decide +kernel | rfl) (hN : bx.N[i]? = some x := by rfl) (hx : bx.sc.names.lookup x = some .local := by rfl)
    (hsw : swapsWith (.ListComp elt [⟨tg, iter, ifs, 0⟩] scope cpos) (some (.Name x p)) pos.line { X.env with scope := bx.sc } = pure true := by rfl)
    (hs : ∀ x, foldedSetIterable iter X.env x = pure x := by intro _; rfl) : WSC X C (.Assign [.Name x p] (.ListComp elt [⟨tg, iter, ifs, 0⟩] scope cpos) pos) Γ E := fun en σ B H D rp hC eo =>
  ⟨_, ps_setLc hb.calm (by rw [hb.nn]; exact hb.nd) (by rw [hb.nn]; exact hN) (by rw [hb.sco]; exact hx) (by rw [swaps_scope (env' := { X.env with scope := bx.sc }) hb.sco]; exact hsw) (bi X tg iter) (by rw [hb.nn, hb.sco]; exact blkOk_by hk)
    (fun s H0 C cl fp => ⟨fun pins s' σ' H' v u Q' I r z => (bg _ tg).run pins s' σ' H' v u Q' I r (z s H0 C cl fp)⟩)
    (fun s H0 C cl fp => ⟨fun pins s' σ' H' Q' I z => by
      obtain ⟨t, h1, h2⟩ := z s H0 C cl fp
      exact h1.run pins s' σ' H' Q' I h2⟩)
    (fun s H0 C cl fp => ⟨fun pins s' σ' H' Q' I z => (be _ elt).run pins s' σ' H' Q' I (z s H0 C cl fp)⟩) hs,
   lc_go hb hc rp (h en σ B H rp hC) fun v o f B' H' g q m n => eo.nx B' H' _ _ g.gr.b (rp.growSet g.gr g.le g.bw i m n) q⟩
theorem ws_all {C : Ent → St → Hp → Prop} (h : WSC X C st Γ E) (hC : ∀ en σ B, C en σ B) : WS X st Γ E := fun en σ B H D rp eo => h en σ B H D rp (hC en σ B) eo
abbrev Any : Ent → St → Hp → Prop := fun _ _ _ => True
theorem pit_any {L : List D → Prop} (h : PIt X tg iter Γ L) : PItC X Any tg iter Γ L := fun en σ B H rp _ => h en σ B H rp
/-- a, b = a tuple -/
theorem ws_asg (h : PP X e Γ fun d => PGd X tg d Γ (fun _ => True) E.nx) (hs : swapsWithSole [tg] e pos.line X.env = pure false := by rfl) (hw : swappedStores [tg] e X.env = pure none := by rfl)
    (h1 : (assignEach [tg] X.env).map (·.2) = [assign tg X.env] := by rfl) : WS X (.Assign [tg] e pos) Γ E := fun en σ B H D rp eo =>
  ⟨_, ps_asg (be X e) (bg X tg) hs hw h1, h en σ B H rp _ fun v d B' H' g p m => p en σ B' H' v (g.rp rp) m _ fun σ2 Γ2 r2 _ l => eo.nx B' H' σ2 Γ2 g.gr.b r2 l⟩
theorem sw_scope {ts : List Expr} {v : Expr} {env env' : Env} (h : env.scope = env'.scope) : swappedStores ts v env = swappedStores ts v env' := by
  have k : env.kindOf = env'.kindOf := by
    funext x
    unfold Env.kindOf
    rw [h]
  have b : env.blockKind = env'.blockKind := by
    unfold Env.blockKind
    rw [h]
  unfold swappedStores
  rw [k, b]
/-- items of an argument list, each a tree of its own -/
def PLo (X : Cx) (es : List Expr) (Γ : List Slot) (P : List O → Prop) : Prop :=
  ∀ en σ B H, Rp X.K en B H σ Γ → ∀ Q : List V → Hp → Prop, (∀ vs os f B' H', Go X.K en B H B' H' → P os → ORL X.K B' H' vs os f → (∀ a ∈ f, H a = none) → Q vs H') → bA X es σ H Q
theorem plo_nil {L : List O → Prop} (p : L []) : PLo X [] Γ L := fun en σ B H rp Q q => ⟨_, pa_nil, q [] [] [] B H (.refl rp) p .nil fun a z => by cases z⟩
theorem plo_cons {es : List Expr} {L : List O → Prop} (h : PO X e Γ fun d => PLo X es Γ fun ds => L (d :: ds)) (hs : starEach (e :: es) X.env = (false, eval e X.env) :: starEach es X.env := by rfl) : PLo X (e :: es) Γ L := fun en σ B H rp Q q =>
  ⟨_, pa_cons (be X e) (ba X es) hs, h en σ B H rp _ fun v d f1 B1 H1 g1 p m n => p en σ B1 H1 (g1.rp rp) _ fun vs ds f2 B2 H2 g2 p2 m2 n2 => by
    have m1 := g2.tree m (rp.nom n)
    refine q _ _ (f1 ++ f2) B2 H2 (g1.tr g2) p2 (.cons m1 m2 fun a h1 h2 => ?_) fun a ha => ?_
    · exact (OR.foot _ _ _ m a h1).2 (n2 a h2)
    · rcases List.mem_append.mp ha with z | z
      · exact n a z
      · cases w : H a with
        | none => rfl
        | some u => exact absurd (n2 a z) (g1.gr.p a (by rw [w]; simp))⟩
/-- a, b = x, y with plain local names -/
theorem ws_par (hb : Bc W X bx) (i j : Nat) {x y : Str} {px py pt : Pos} {kt k2 pt2} (h : PLo X [a, b] Γ fun os => ∃ o1 o2, os = [o1, o2] ∧ E.nx ((Γ.set i (.own o1)).set j (.own o2))) (hij : i ≠ j := by decide)
    (hi : bx.N[i]? = some x := by rfl) (hj : bx.N[j]? = some y := by rfl) (hx : bx.sc.names.lookup x = some .local := by rfl) (hy : bx.sc.names.lookup y = some .local := by rfl)
    (hw : swappedStores [.Tuple [.Name x px, .Name y py] kt pt] (.Tuple [a, b] k2 pt2) { X.env with scope := bx.sc } = pure (some [x, y]) := by rfl)
    (hs : swapsWithSole [.Tuple [.Name x px, .Name y py] kt pt] (.Tuple [a, b] k2 pt2) pos.line X.env = pure false := by rfl) : WS X (.Assign [.Tuple [.Name x px, .Name y py] kt pt] (.Tuple [a, b] k2 pt2) pos) Γ E := fun en σ B H D rp eo =>
  ⟨_, ps_par hb.calm (by rw [hb.nn]; exact hb.nd) (by rw [hb.nn]; exact hi) (by rw [hb.nn]; exact hj) hij (by rw [hb.sco]; exact hx) (by rw [hb.sco]; exact hy) (ba X _) (by rw [sw_scope (env' := { X.env with scope := bx.sc }) hb.sco]; exact hw) hs,
   h en σ B H rp _ fun vs os f B' H' g ⟨o1, o2, e, p⟩ m n => by
    subst e
    cases m with
    | cons m1 m2 d1 =>
      cases m2 with
      | cons m2 m3 d2 =>
        cases m3
        refine ⟨_, _, rfl, eo.nx B' H' _ _ g.gr.b ?_ p⟩
        rename_i f1 _ f2 _
        refine rp.growSet2 g.gr g.le g.bw hij m1 m2 (fun a ha => n a (by simp [ha])) (fun a ha => n a (by simp [ha])) fun a h1 h2 => d1 a h1 (by simp [h2])⟩
/-- a, b, c = x, y, z with plain local names -/
theorem ws_par3 (hb : Bc W X bx) (i j l : Nat) {x y z : Str} {px py pz pt : Pos} {kt k2 pt2} (h : PLo X [a, b, c] Γ fun os => ∃ o1 o2 o3, os = [o1, o2, o3] ∧ E.nx (((Γ.set i (.own o1)).set j (.own o2)).set l (.own o3))) (hij : i ≠ j := by decide) (hil : i ≠ l := by decide) (hjl : j ≠ l := by decide)
    (hi : bx.N[i]? = some x := by rfl) (hj : bx.N[j]? = some y := by rfl) (hl : bx.N[l]? = some z := by rfl) (hx : bx.sc.names.lookup x = some .local := by rfl) (hy : bx.sc.names.lookup y = some .local := by rfl) (hz : bx.sc.names.lookup z = some .local := by rfl)
    (hw : swappedStores [.Tuple [.Name x px, .Name y py, .Name z pz] kt pt] (.Tuple [a, b, c] k2 pt2) { X.env with scope := bx.sc } = pure (some [x, y, z]) := by rfl)
    (hs : swapsWithSole [.Tuple [.Name x px, .Name y py, .Name z pz] kt pt] (.Tuple [a, b, c] k2 pt2) pos.line X.env = pure false := by rfl) : WS X (.Assign [.Tuple [.Name x px, .Name y py, .Name z pz] kt pt] (.Tuple [a, b, c] k2 pt2) pos) Γ E := fun en σ B H D rp eo =>
  ⟨_, ps_par3 hb.calm (by rw [hb.nn]; exact hb.nd) (by rw [hb.nn]; exact hi) (by rw [hb.nn]; exact hj) (by rw [hb.nn]; exact hl) hij hil hjl (by rw [hb.sco]; exact hx) (by rw [hb.sco]; exact hy) (by rw [hb.sco]; exact hz) (ba X _) (by rw [sw_scope (env' := { X.env with scope := bx.sc }) hb.sco]; exact hw) hs,
   h en σ B H rp _ fun vs os f B' H' g ⟨o1, o2, o3, e, p⟩ m n => by
    subst e
    cases m with
    | @cons _ _ _ _ f1 _ m1 m2 d1 =>
      cases m2 with
      | @cons _ _ _ _ f2 _ m2 m3 d2 =>
        cases m3 with
        | @cons _ _ _ _ f3 _ m3 m4 d3 =>
          cases m4
          exact ⟨_, _, _, rfl, eo.nx B' H' _ _ g.gr.b (rp.growSet3 g.gr g.le g.bw m1 m2 m3 (fun a ha => n a (by simp [ha])) (fun a ha => n a (by simp [ha])) (fun a ha => n a (by simp [ha]))
            (fun a h1 h2 => d1 a h1 (by simp [h2])) (fun a h1 h2 => d1 a h1 (by simp [h2])) fun a h1 h2 => d2 a h1 (by simp [h2])) p⟩⟩

/-! ### loops -/
/-- the frame's own exceptions pass: asked by loops -/
def Own (X : Cx) : Prop := PassesOwn (model X.prog X.w) X.A X.env X.xe ∧ X.stack = X.env :: X.outer ∧ X.env.frame = some X.env.locals
theorem wsc_for {C : Ent → St → Hp → Prop} (hb : Bc W X bx) (ho : Own X) (h : PItC X C tg iter Γ fun ds => ∃ J : Nat → List Slot → Prop, J 0 Γ ∧ (∀ Γ', J ds.length Γ' → E.nx Γ') ∧
      ∀ i d Γ', ds[i]? = some d → J i Γ' → PGd X tg d Γ' (fun _ => True) fun Γ2 => WSs X body Γ2 { nx := J (i + 1), rt := E.rt, bk := E.nx, ct := J (i + 1), ex := E.ex })
    (hs : ∀ x, foldedSetIterable iter X.env x = pure x := by intro _; rfl) : WSC X C (.For tg iter body [] pos) Γ E := fun en σ B H D rp hC eo =>
  ⟨_, ps_for ho.1 hb.calm (bi X tg iter) (bg X tg) (bss X body) hs, h en σ B H rp hC _ fun It ds B1 H1 g1 ⟨J, j0, je, jt⟩ it => by
    have lkR : ∀ {B' H' σ' Γ'}, Rp X.K en B' H' σ' Γ' → LkOk en H' := fun r => r.lks
    refine ⟨fun i m σ' H' => m = ds.length - i ∧ i ≤ ds.length ∧ ∃ B' Γ', Sub B1 B' ∧ Rp X.K en B' H' σ' Γ' ∧ J i Γ', ⟨ds.length, by simp, Nat.zero_le _, B1, Γ, Sub.rfl', g1.rp rp, j0⟩, ?_⟩
    rintro i m σ2 H2 ⟨rfl, hi, B2, Γ2, s2, r2, j2⟩
    by_cases hlt : i < ds.length
    · refine .inr ⟨it.go i B2 H2 s2 r2.le (lkR r2) hlt, fun σ' H' => ∃ B' Γ', Sub B1 B' ∧ Rp X.K en B' H' σ' Γ' ∧ J (i + 1) Γ', fun σ' H' w => ⟨ds.length - (i + 1), by omega, rfl, hlt, w⟩, fun x H3 y => ?_⟩
      obtain ⟨d, hd⟩ : ∃ d, ds[i]? = some d := ⟨ds[i], by simp [hlt]⟩
      obtain ⟨B3, gr3, le3, hx⟩ := it.yld i d B2 H2 x H3 s2 r2.le (lkR r2) hd y
      have r3 := r2.step gr3 le3
      refine jt i d Γ2 hd j2 en σ2 B3 H3 x r3 hx _ fun σ4 Γ4 r4 _ w => ?_
      refine w en σ4 B3 H3 _ r4 ⟨fun B' H' σ' Γ' s r z => ⟨B', Γ', (s2.tr gr3.b).tr s, r, z⟩, fun B' H' σ' Γ' s r z => ?_, fun B' H' σ' Γ' s r z => ⟨B', Γ', (s2.tr gr3.b).tr s, r, z⟩, fun v o f B' H' s => ?_, eo.ex.up (g1.gr.b.tr (s2.tr gr3.b))⟩
      · exact eo.nx B' H' σ' Γ' (g1.gr.b.tr ((s2.tr gr3.b).tr s)) r z
      · exact eo.rt v o f B' H' (g1.gr.b.tr ((s2.tr gr3.b).tr s))
    · have e : i = ds.length := by omega
      subst e
      exact .inl ⟨it.stop _ B2 H2 s2 r2.le (lkR r2) (Nat.le_refl _) (Nat.le_refl _), eo.nx B2 H2 σ2 Γ2 (g1.gr.b.tr s2) r2 (je Γ2 j2)⟩⟩
theorem ws_for (hb : Bc W X bx) (ho : Own X) (h : PIt X tg iter Γ fun ds => ∃ J : Nat → List Slot → Prop, J 0 Γ ∧ (∀ Γ', J ds.length Γ' → E.nx Γ') ∧
      ∀ i d Γ', ds[i]? = some d → J i Γ' → PGd X tg d Γ' (fun _ => True) fun Γ2 => WSs X body Γ2 { nx := J (i + 1), rt := E.rt, bk := E.nx, ct := J (i + 1), ex := E.ex })
    (hs : ∀ x, foldedSetIterable iter X.env x = pure x := by intro _; rfl) : WS X (.For tg iter body [] pos) Γ E := ws_all (wsc_for hb ho (pit_any h) hs) fun _ _ _ => trivial
/-- while: J's states by a measure -/
theorem ws_while (hb : Bc W X bx) (ho : Own X) (J : Nat → List Slot → Prop) (m0 : Nat) (h0 : J m0 Γ)
    (h : ∀ m Γ', J m Γ' → PB X c Γ' fun k => if k = true then WSs X body Γ' { nx := fun Γ2 => ∃ m', m' < m ∧ J m' Γ2, rt := E.rt, bk := E.nx, ct := fun Γ2 => ∃ m', m' < m ∧ J m' Γ2, ex := E.ex } else E.nx Γ') : WS X (.While c body [] pos) Γ E := fun en σ B H D rp eo =>
  ⟨_, ps_while ho.1 (bt X c) (bss X body), fun m σ' H' => ∃ B' Γ', Sub B B' ∧ Rp X.K en B' H' σ' Γ' ∧ J m Γ', ⟨m0, B, Γ, Sub.rfl', rp, h0⟩, fun m σ2 H2 ⟨B2, Γ2, s2, r2, j2⟩ =>
    h m Γ2 j2 en σ2 B2 H2 r2 _ fun k B3 H3 g3 t => by
      cases k with
      | false => exact eo.nx B3 H3 σ2 Γ2 (s2.tr g3.gr.b) (g3.rp r2) t
      | true =>
        refine ⟨fun σ' H' => ∃ m', m' < m ∧ ∃ B' Γ', Sub B B' ∧ Rp X.K en B' H' σ' Γ' ∧ J m' Γ', fun σ' H' ⟨m', hm, z⟩ => ⟨m', hm, z⟩, ?_⟩
        refine t en σ2 B3 H3 _ (g3.rp r2) ⟨fun B' H' σ' Γ' s r z => ?_, fun B' H' σ' Γ' s r z => ?_, fun B' H' σ' Γ' s r z => ?_, fun v o f B' H' s => ?_, eo.ex.up (s2.tr g3.gr.b)⟩
        · obtain ⟨m', hm, j⟩ := z
          exact ⟨m', hm, B', Γ', (s2.tr g3.gr.b).tr s, r, j⟩
        · exact eo.nx B' H' σ' Γ' ((s2.tr g3.gr.b).tr s) r z
        · obtain ⟨m', hm, j⟩ := z
          exact ⟨m', hm, B', Γ', (s2.tr g3.gr.b).tr s, r, j⟩
        · exact eo.rt v o f B' H' ((s2.tr g3.gr.b).tr s)⟩

/-! ### a statement under a lock -/
/-- a lock where the def's entry had none -/
theorem ps_lockN {st : Stmt} {t : TS} (h : PS X st t) : PS X st (fun D σ H => ∃ d u, H d = some u ∧ Mut (some u) ∧ ((∀ o v, X.H_0 d ≠ some (.frz o v)) → ∀ od, t ⟨fun σ' H' => H' d = some (.frz od u) ∧ D.nx σ' (upd H' d u), fun v H' => H' d = some (.frz od u) ∧ D.rt v (upd H' d u), fun σ' H' => H' d = some (.frz od u) ∧ D.bk σ' (upd H' d u), fun σ' H' => H' d = some (.frz od u) ∧ D.ct σ' (upd H' d u)⟩ σ (upd H d (.frz od u)))) := by
  refine ⟨fun pins s σ H D I hw => ?_⟩
  obtain ⟨d, u, hd, mu, hw⟩ := hw
  obtain ⟨od, I1⟩ := I.lock hd mu
  refine thn (h.run pins s σ _ _ I1 (hw (I.nofrz hd mu) od)) fun f s1 q => ?_
  cases f with
  | next => obtain ⟨σ', H', I2, e, q⟩ := q; exact ⟨σ', _, I2.unlock e (I.nofrz hd mu), q⟩
  | brk => obtain ⟨σ', H', I2, e, q⟩ := q; exact ⟨σ', _, I2.unlock e (I.nofrz hd mu), q⟩
  | cont => obtain ⟨σ', H', I2, e, q⟩ := q; exact ⟨σ', _, I2.unlock e (I.nofrz hd mu), q⟩
  | ret v => obtain ⟨x, σ', H', I2, r, e, q⟩ := q; exact ⟨x, σ', _, I2.unlock e (I.nofrz hd mu), r, q⟩
/-- an exception out of it -/
theorem takes_lock {Wx : WX} {d : Addr} {u : HO} {od : Obj} (nf : ∀ o v, X.H_0 d ≠ some (.frz o v)) (t : Takes X Wx) : Takes X (fun cls dd σ H => H d = some (.frz od u) ∧ Wx cls dd σ (upd H d u)) := fun v s' x => by
  obtain ⟨a, B, sI, pins, σ, H, cls, dd, e, I, nb, up, sky, na, os, ag, w1, w2⟩ := x
  have ne : a ≠ d := fun z => by
    rw [z, w1] at na
    cases na
  exact t v s' ⟨a, B, sI, pins, σ, _, cls, dd, e, I.unlock w1 nf, nb, up, sky, by rw [upd_ne ne]; exact na, os, ag, w2⟩
theorem ws_lock (i : Nat) {ds : List (Key × D)} (hΓ : Γ[i]? = some (.v (.dic ds))) (h : WSC X (LkAt X.K i ds) st Γ E) : WS X st Γ E := fun en σ B H D rp eo => by
  obtain ⟨v, h1, h2⟩ := rp.val hΓ
  cases h2 with
  | @dic a kvs _ hr hm =>
    have same : ∀ {o : Obj}, H a = some (.frz o (.dK kvs)) → bS X st D σ H := fun {o} z => by
      have r1 : Rp X.K (en.lock a o (.dK kvs)) B H σ Γ := ⟨rp.le, rp.gr, rp.len, rp.bw, rp.sl, rp.me, fun q hq => by
        rcases List.mem_cons.mp hq with rfl | hq
        · exact z
        · exact rp.lks q hq⟩
      have back : ∀ {B' H' σ' Γ'}, Rp X.K (en.lock a o (.dK kvs)) B' H' σ' Γ' → Rp X.K en B' H' σ' Γ' := fun r => ⟨r.le, r.gr, r.len, r.bw, r.sl, r.me, fun q hq => r.lks q (List.mem_cons_of_mem _ hq)⟩
      exact h _ σ B H D r1 ⟨a, o, kvs, h1, List.mem_cons_self, hm⟩ ⟨fun B' H' σ' Γ' s r z => eo.nx B' H' σ' Γ' s (back r) z, fun B' H' σ' Γ' s r z => eo.bk B' H' σ' Γ' s (back r) z, fun B' H' σ' Γ' s r z => eo.ct B' H' σ' Γ' s (back r) z,
        fun v o f B' H' s g l w k => eo.rt v o f B' H' s g l w fun q hq => k q (List.mem_cons_of_mem _ hq), by
          obtain ⟨Wx, x1, x2⟩ := eo.ex
          exact ⟨Wx, x1, fun B' H' σ' Γ' cls d x s r => x2 B' H' σ' Γ' cls d x s (back r)⟩⟩
    rcases hr with hr | ⟨o, hr⟩
    · rcases rp.le _ _ hr with z | ⟨o, kvs', e1, z⟩
      · refine ⟨_, ps_lockN (bs X st), a, .dK kvs, z, trivial, fun nf od => ?_⟩
        have r1 := rp.lockK (o := od) z hr
        refine h _ σ B _ _ r1 ⟨a, od, kvs, h1, List.mem_cons_self, hm⟩ ⟨fun B' H' σ' Γ' s r q => ?_, fun B' H' σ' Γ' s r q => ?_, fun B' H' σ' Γ' s r q => ?_, fun v o f B' H' s g l w k q ro n => ?_, by
          obtain ⟨Wx, x1, x2⟩ := eo.ex
          refine ⟨_, takes_lock (od := od) (u := .dK kvs) nf x1, fun B' H' σ' Γ' cls d x s r y q => ?_⟩
          obtain ⟨u1, u2⟩ := rp.unlock z hr s r
          exact ⟨u1, x2 B' _ σ' Γ' cls d x s u2 y q⟩⟩
        · obtain ⟨u1, u2⟩ := rp.unlock z hr s r
          exact ⟨u1, eo.nx B' _ σ' Γ' s u2 q⟩
        · obtain ⟨u1, u2⟩ := rp.unlock z hr s r
          exact ⟨u1, eo.bk B' _ σ' Γ' s u2 q⟩
        · obtain ⟨u1, u2⟩ := rp.unlock z hr s r
          exact ⟨u1, eo.ct B' _ σ' Γ' s u2 q⟩
        · -- the frame's facts at a return: any slots will do
          have r0 : Rp X.K (en.lock a od (.dK kvs)) B' H' [] [] := ⟨l, g, rfl, w, ⟨fun _ => [], (fun _ _ _ z => nomatch z), (fun _ _ z => nomatch z), fun _ => rfl⟩, rp.me, k⟩
          obtain ⟨u1, u2⟩ := rp.unlock z hr s r0
          have hB' := s _ _ hr
          refine ⟨u1, eo.rt v o f B' _ s u2.gr u2.le u2.bw u2.lks q (OR.keep Sub.rfl'.le _ _ _ ro fun x hx => ?_) n⟩
          have nb := (OR.foot _ _ _ ro x hx).1
          exact ⟨upd_ne fun w => (by rw [w, hB'] at nb; cases nb), nb⟩
      · cases e1
        exact same z
    · rcases rp.le _ _ hr with z | ⟨_, _, e1, _⟩
      · exact same z
      · cases e1
end
end Dn

/-! Dn7: trees that are changed; slots frozen, forgotten; a def by its body. -/
namespace Dn
open PySem PySem.Spec L2 RZ

section
variable {K : PySem.W.Frag} {e : Ent} {B H : Hp} {σ : St} {Γ : List Slot}
/-- what a tree's own objects are -/
def Own1 (H : Hp) (a : Addr) : Prop := (∃ xs, H a = some (.lst xs)) ∨ ∃ kvs, H a = some (.dK kvs)
mutual
theorem OR.obj : ∀ (o : O) (v : V) (f : List Addr), OR K B H v o f → ∀ a ∈ f, Own1 H a
  | .val d, _, _, h => by
    cases h with
    | val h1 => intro a ha; cases ha
  | .lst os, _, _, h => by
    cases h with
    | lst h1 h2 h3 h4 =>
      intro b hb
      rcases List.mem_cons.mp hb with rfl | hb
      · exact .inl ⟨_, h2⟩
      · exact ORL.obj os _ _ h3 b hb
  | .dic os, _, _, h => by
    cases h with
    | dic h1 h2 h3 h4 =>
      intro b hb
      rcases List.mem_cons.mp hb with rfl | hb
      · exact .inr ⟨_, h2⟩
      · exact ORM.obj os _ _ h3 b hb
theorem ORL.obj : ∀ (os : List O) (vs : List V) (f : List Addr), ORL K B H vs os f → ∀ a ∈ f, Own1 H a
  | [], _, _, h => by
    cases h
    intro a ha; cases ha
  | o :: os, _, _, h => by
    cases h with
    | cons h1 h2 h3 =>
      intro b hb
      rcases List.mem_append.mp hb with hb | hb
      · exact OR.obj o _ _ h1 b hb
      · exact ORL.obj os _ _ h2 b hb
theorem ORM.obj : ∀ (os : List (Key × O)) (vs : List (Key × V)) (f : List Addr), ORM K B H vs os f → ∀ a ∈ f, Own1 H a
  | [], _, _, h => by
    cases h
    intro a ha; cases ha
  | (k0, o) :: os, _, _, h => by
    cases h with
    | cons h1 h2 h3 =>
      intro b hb
      rcases List.mem_append.mp hb with hb | hb
      · exact OR.obj o _ _ h1 b hb
      · exact ORM.obj os _ _ h2 b hb
end
/-- an object of the tree in the slot i is written -/
theorem Rp.mut (r : Rp K e B H σ Γ) {i : Nat} {o : O} (h : Γ[i]? = some (.own o)) : ∃ v f, σ[i]? = some (some v) ∧ OR K B H v o f ∧
    ∀ p ∈ f, ∀ ho o' f', (∀ a ∈ f', a ∈ f) → OR K B (upd H p ho) v o' f' → Rp K e B (upd H p ho) σ (Γ.set i (.own o')) := by
  obtain ⟨F, f1, f2, f3⟩ := r.sl
  have w := f3 i
  rw [h] at w
  obtain ⟨v, h1, h2⟩ := w
  refine ⟨v, F i, h1, h2, fun p hp ho o' f' hs h' => ?_⟩
  have nB : B p = none := (OR.foot _ _ _ h2 p hp).1
  have nE : e.H p = none := f2 i p hp
  have nM : ¬ e.M p := fun m => (r.me p m).1 nE
  have nF : ∀ o u, H p ≠ some (.frz o u) := fun o u z => by
    rcases OR.obj _ _ _ h2 p hp with ⟨xs, q⟩ | ⟨xs, q⟩ <;> (rw [z] at q; cases q)
  have stay : ∀ {f : List Addr}, p ∉ f → (∀ a ∈ f, B a = none) → ∀ a ∈ f, upd H p ho a = H a ∧ B a = none := fun n nb a ha => ⟨upd_ne fun z => n (z ▸ ha), nb a ha⟩
  refine ⟨r.le.write nB, ⟨r.gr.b, fun a u q b m => ?_, fun a o u q => ?_, fun a q => ?_, r.gr.s⟩, by simpa using r.len, ?_, ⟨fun j => if j = i then f' else F j, fun j k a hj hk => ?_, fun j a ha => ?_, fun j => ?_⟩, r.me, fun q hq => ?_⟩
  · rw [upd_ne fun z => by rw [z, nE] at q; cases q]
    exact r.gr.h a u q b m
  · rw [upd_ne fun z => by rw [z, nE] at q; cases q]
    exact r.gr.z a o u q
  · unfold upd
    split
    · simp
    · exact r.gr.p a q
  · have w := r.bw
    unfold BwOk at w ⊢
    cases hbw : e.bw with
    | none => trivial
    | some z =>
      rw [hbw] at w
      obtain ⟨v', I'⟩ := z
      obtain ⟨o2, g, i2, r2, mm⟩ := w
      exact ⟨o2, g, i2, OR.keep Sub.rfl'.le _ _ _ r2 (stay (fun m => nM (mm p m)) fun a ha => (OR.foot _ _ _ r2 a ha).1), mm⟩
  · by_cases e1 : j = i
    · by_cases e2 : k = i
      · exact e1.trans e2.symm
      · simp only [if_pos e1] at hj
        simp only [if_neg e2] at hk
        exact e1.trans (f1 i k a (hs a hj) hk)
    · by_cases e2 : k = i
      · simp only [if_neg e1] at hj
        simp only [if_pos e2] at hk
        exact (f1 j i a hj (hs a hk)).trans e2.symm
      · simp only [if_neg e1] at hj
        simp only [if_neg e2] at hk
        exact f1 j k a hj hk
  · by_cases e1 : j = i
    · simp only [if_pos e1] at ha
      exact f2 i a (hs a ha)
    · simp only [if_neg e1] at ha
      exact f2 j a ha
  · rw [get_set]
    by_cases e1 : j = i
    · subst e1
      have q : j < Γ.length := (List.getElem?_eq_some_iff.mp h).1
      simp only [q, and_self, if_true]
      exact ⟨v, h1, h'⟩
    · have n1 : ¬ (i = j ∧ j < Γ.length) := fun z => e1 z.1.symm
      simp only [if_neg e1, if_neg n1]
      exact (f3 j).keep Sub.rfl'.le (stay (fun m => e1 (f1 j i p m hp)) fun a ha => ((f3 j).foot a ha).1)
  · rw [upd_ne fun z => nF _ _ (z ▸ r.lks q hq)]
    exact r.lks q hq
/-- the tree in the slot i becomes data -/
theorem Rp.freeze (r : Rp K e B H σ Γ) {i : Nat} {o : O} (h : Γ[i]? = some (.own o)) : ∃ B', Sub B B' ∧ Rp K e B' H σ (Γ.set i (.v o.toD)) := by
  obtain ⟨F, f1, f2, f3⟩ := r.sl
  have w := f3 i
  rw [h] at w
  obtain ⟨v, h1, h2⟩ := w
  have hb : ∀ a ∈ F i, B a = none := fun a ha => (OR.foot _ _ _ h2 a ha).1
  have nM : ∀ a ∈ F i, ¬ e.M a := fun a ha m => (r.me a m).1 (f2 i a ha)
  have sb : Sub B (frzB B H (F i)) := frzB_sub hb
  have out : ∀ {f : List Addr}, (∀ a ∈ f, a ∉ F i) → (∀ a ∈ f, B a = none) → ∀ a ∈ f, H a = H a ∧ frzB B H (F i) a = none := fun n nb a ha => ⟨rfl, by rw [frzB_out (n a ha)]; exact nb a ha⟩
  refine ⟨_, sb, frzB_le r.le, ⟨r.gr.b.tr sb, r.gr.h, r.gr.z, r.gr.p, fun a h1 h2 => by rw [frzB_out fun m => h2 (f2 i a m)]; exact r.gr.s a h1 h2⟩, by simpa using r.len, ?_, ⟨fun j => if j = i then [] else F j, fun j k a hj hk => ?_, fun j a ha => ?_, fun j => ?_⟩, r.me, r.lks⟩
  · have w := r.bw
    unfold BwOk at w ⊢
    cases hbw : e.bw with
    | none => trivial
    | some z =>
      rw [hbw] at w
      obtain ⟨v', I'⟩ := z
      obtain ⟨o2, g, i2, r2, mm⟩ := w
      exact ⟨o2, g, i2, OR.keep sb.le _ _ _ r2 (out (fun a ha m => nM a m (mm a ha)) fun a ha => (OR.foot _ _ _ r2 a ha).1), mm⟩
  · by_cases e1 : j = i
    · simp only [if_pos e1] at hj
      cases hj
    · by_cases e2 : k = i
      · simp only [if_pos e2] at hk
        cases hk
      · simp only [if_neg e1] at hj
        simp only [if_neg e2] at hk
        exact f1 j k a hj hk
  · by_cases e1 : j = i
    · simp only [if_pos e1] at ha
      cases ha
    · simp only [if_neg e1] at ha
      exact f2 j a ha
  · rw [get_set]
    by_cases e1 : j = i
    · subst e1
      have q : j < Γ.length := (List.getElem?_eq_some_iff.mp h).1
      simp only [q, and_self, if_true]
      exact ⟨v, h1, .val h2.frz⟩
    · have n1 : ¬ (i = j ∧ j < Γ.length) := fun z => e1 z.1.symm
      simp only [if_neg e1, if_neg n1]
      exact (f3 j).keep sb.le (out (fun a ha m => e1 (f1 j i a ha m)) fun a ha => ((f3 j).foot a ha).1)
theorem Rp.lose (r : Rp K e B H σ Γ) (i : Nat) : Rp K e B H σ (Γ.set i .no) := by
  cases h : σ[i]? with
  | some x =>
    have := r.forget i x
    rwa [show σ.set i x = σ from List.ext_getElem? fun j => by
      rw [get_set]
      split
      · rename_i z
        rw [← z.1, h]
      · rfl] at this
  | none =>
    have := r.forget i none
    rwa [show σ.set i none = σ from List.ext_getElem? fun j => by
      rw [get_set]
      split
      · rename_i z
        have := List.getElem?_eq_none_iff.mp h
        omega
      · rfl] at this
theorem Rp.loses (r : Rp K e B H σ Γ) : ∀ vs : List Nat, Rp K e B H σ (wipeG Γ vs)
  | [] => r
  | v :: vs => (Rp.loses r vs).lose v
end

section
variable {W : Wd} {X : Cx} {bx : Bx} {Γ : List Slot} {tg a b c e ix : Expr} {pos : Pos} {en : Ent} {B H : Hp} {σ : St} {R : O → Prop} {P : D → Prop} {st : Stmt} {rest : List Stmt} {sts : List Stmt} {E : En}
theorem wss_frz (i : Nat) {o : O} (h : Γ[i]? = some (.own o)) (k : WSs X sts (Γ.set i (.v o.toD)) E) : WSs X sts Γ E := fun en σ B H D rp eo => by
  obtain ⟨B', sb, r⟩ := rp.freeze h
  exact k en σ B' H D r (eo.up sb)
theorem wss_lose (vs : List Nat) (k : WSs X sts (wipeG Γ vs) E) : WSs X sts Γ E := fun en σ B H D rp eo => k en σ B H D (rp.loses vs) eo
theorem wss_end (vs : List Nat) (k : E.nx (wipeG Γ vs)) : WSs X [] Γ E := wss_lose vs (wss_nil k)
theorem ws_lose (vs : List Nat) (k : WS X st (wipeG Γ vs) E) : WS X st Γ E := fun en σ B H D rp eo => k en σ B H D (rp.loses vs) eo
theorem dqs_app {ds : List D} {d : D} : (ds ++ [d]).map O.val = ds.map O.val ++ [O.val d] := by simp

/-! ### xs.append(e), d[k] = e, d.pop(k) of a tree of the def's own -/
theorem ws_app (hb : Bc W X bx) (i : Nat) {os : List O} {x : Str} {p apos cpos : Pos} (hΓ : Γ[i]? = some (.own (.lst os))) (h : PP X e Γ fun d => os.length < sizeLine ∧ E.nx (Γ.set i (.own (.lst (os ++ [.val d]))))) (hN : bx.N[i]? = some x := by rfl)
    (hv : Vis bx.sc x := by first | exact Or.inl rfl | exact Or.inr (Or.inl rfl) | exact Or.inr (Or.inr rfl)) (hd : (x == ("__debug__" : Str)) = false := by decide) (hcd : (x == ("__classdict__" : Str)) = false := by decide)
    (hs : starEach [e] X.env = [(false, eval e X.env)] := by rfl) (hbase : attributeBase (.Name x p) "append" X.env (eval (.Name x p) X.env) = eval (.Name x p) X.env := by rfl)
    (hfew : ((backTo cpos (starEach [e] X.env)).all (fun x => !x.1) && (backToKw cpos (keywordEach [] X.env)).all (fun x => x.1.isSome) && decide (([e] : List Expr).length + ([] : List Keyword).length + (if ([] : List Keyword).isEmpty then 0 else 1) < 30)) = true := by rfl)
    (hline : (apos.endLine == cpos.line) = true := by rfl) (hpl : (backTo cpos (starEach [] X.env)).any (·.1) = false := by rfl) (hsw : swapsWith (.Call (.Attribute (.Name x p) "append" apos) [e] [] cpos) none pos.line X.env = pure false := by rfl) :
    WS X (.Expr (.Call (.Attribute (.Name x p) "append" apos) [e] [] cpos) pos) Γ E := fun en σ B H D rp eo => by
  refine ⟨_, ps_expr (pe_bm PySem.F.plainAttrs_list PySem.F.slot_list_append PySem.F.type_list_append mt_append (pe_var (by rw [hb.nn]; exact hN) (by rw [hb.sco]; exact hv) hd hcd) (pa_cons (be X e) pa_nil hs) hbase hfew hline hs hpl) hsw, ?_⟩
  obtain ⟨v, f, h1, h2, _⟩ := rp.mut hΓ
  cases h2 with
  | @lst a xs _ f nB hH ol nf =>
    refine ⟨.ref a, h1, .inl ⟨rfl, xs, .inl (.inl hH)⟩, h en σ B H rp _ fun u d B1 H1 g1 ⟨p1, p2⟩ m => ?_⟩
    have rp1 := g1.rp rp
    obtain ⟨v', f', h1', h2', k⟩ := rp1.mut hΓ
    rw [h1] at h1'
    cases h1'
    cases h2' with
    | @lst _ xs' _ f' nB' hH' ol' nf' =>
      have hl : xs'.length = os.length := orl_len ol'
      refine ⟨a, xs', u, rfl, rfl, hH', by omega, eo.nx B1 _ σ _ g1.gr.b (k a List.mem_cons_self _ (.lst (os ++ [.val d])) (a :: f') (fun _ z => z) (.lst nB' upd_same ?_ nf')) p2⟩
      have q := ORL.keep (H' := upd H1 a (.lst (xs' ++ [u]))) Sub.rfl'.le _ _ _ ol' fun b hb => ⟨upd_ne fun z => nf' (z ▸ hb), (ORL.foot _ _ _ ol' b hb).1⟩
      have := orl_snoc (fo := []) (OR.val m) q (fun _ _ z => nomatch z)
      simpa using this
theorem ws_appV (hb : Bc W X bx) (i : Nat) {ds : List D} {x : Str} {p apos cpos : Pos} (hΓ : Γ[i]? = some (.own (O.ls ds))) (h : PP X e Γ fun d => ds.length < sizeLine ∧ E.nx (Γ.set i (.own (O.ls (ds ++ [d]))))) (hN : bx.N[i]? = some x := by rfl)
    (hv : Vis bx.sc x := by first | exact Or.inl rfl | exact Or.inr (Or.inl rfl) | exact Or.inr (Or.inr rfl)) (hd : (x == ("__debug__" : Str)) = false := by decide) (hcd : (x == ("__classdict__" : Str)) = false := by decide)
    (hs : starEach [e] X.env = [(false, eval e X.env)] := by rfl) (hbase : attributeBase (.Name x p) "append" X.env (eval (.Name x p) X.env) = eval (.Name x p) X.env := by rfl)
    (hfew : ((backTo cpos (starEach [e] X.env)).all (fun x => !x.1) && (backToKw cpos (keywordEach [] X.env)).all (fun x => x.1.isSome) && decide (([e] : List Expr).length + ([] : List Keyword).length + (if ([] : List Keyword).isEmpty then 0 else 1) < 30)) = true := by rfl)
    (hline : (apos.endLine == cpos.line) = true := by rfl) (hpl : (backTo cpos (starEach [] X.env)).any (·.1) = false := by rfl) (hsw : swapsWith (.Call (.Attribute (.Name x p) "append" apos) [e] [] cpos) none pos.line X.env = pure false := by rfl) :
    WS X (.Expr (.Call (.Attribute (.Name x p) "append" apos) [e] [] cpos) pos) Γ E :=
  ws_app hb i hΓ (h.imp fun d ⟨h1, h2⟩ => ⟨by simpa using h1, by rw [← dqs_app]; exact h2⟩) hN hv hd hcd hs hbase hfew hline hpl hsw
theorem orm_put {K : PySem.W.Frag} {B H : Hp} {vals : List (Key × V)} {kvs : List (Key × D)} {f : List Addr} (h : ORM K B H vals (kvs.map fun p => (p.1, O.val p.2)) f) (k : Key) {v : V} {d : D} (m : Dq K B v d) (H' : Hp) :
    ORM K B H' (putK vals k v) ((dPut kvs k d).map fun p => (p.1, O.val p.2)) [] ∧ f = [] := by
  obtain ⟨e, q⟩ := ORM.vals_inv h
  exact ⟨ORM.vals (q.put k m), e⟩
/-- d[k] = e -/
theorem ws_dput (hb : Bc W X bx) (i : Nat) {kvs : List (Key × D)} {x : Str} {p spos : Pos} (hΓ : Γ[i]? = some (.own (O.dc kvs))) (h : PP X e Γ fun d => PP X ix Γ fun kd => ∃ k, kd = kD k ∧ kvs.length < sizeLine ∧ E.nx (Γ.set i (.own (O.dc (dPut kvs k d))))) (hN : bx.N[i]? = some x := by rfl)
    (hv : Vis bx.sc x := by first | exact Or.inl rfl | exact Or.inr (Or.inl rfl) | exact Or.inr (Or.inr rfl)) (hd : (x == ("__debug__" : Str)) = false := by decide) (hcd : (x == ("__classdict__" : Str)) = false := by decide)
    (hs : swapsWith e (some (.Subscript (.Name x p) ix spos)) pos.line X.env = pure false := by rfl) : WS X (.Assign [.Subscript (.Name x p) ix spos] e pos) Γ E := fun en σ B H D rp eo => by
  refine ⟨_, ps_dput (by have := hb.room.units; omega) (pe_var (by rw [hb.nn]; exact hN) (by rw [hb.sco]; exact hv) hd hcd) (be X ix) (be X e) hs, h en σ B H rp _ fun u d B1 H1 g1 q m => ?_⟩
  have rp1 := g1.rp rp
  obtain ⟨v, f, h1, h2, _⟩ := rp1.mut hΓ
  refine ⟨v, h1, q en σ B1 H1 rp1 _ fun w kd B2 H2 g2 ⟨k, ek, hl, q2⟩ mk => ?_⟩
  subst ek
  obtain rfl := kd_dq mk
  have rp2 := g2.rp rp1
  obtain ⟨v', f', h1', h2', kk⟩ := rp2.mut hΓ
  rw [h1] at h1'
  cases h1'
  cases h2' with
  | @dic a vals _ f' nB' hH' om nf' =>
    obtain ⟨q3, rfl⟩ := orm_put om k (g2.up m) (upd H2 a (.dK (putK vals k u)))
    have hlen : vals.length = kvs.length := by
      obtain ⟨_, z⟩ := ORM.vals_inv om
      exact z.length
    exact ⟨a, _, rfl, .inl ⟨vals, k, hH', rfl, by omega, rfl⟩, eo.nx B2 _ σ _ (g1.tr g2).gr.b (kk a List.mem_cons_self _ (O.dc (dPut kvs k d)) [a] (fun _ z => z) (.dic nB' upd_same q3 (by simp))) q2⟩
/-- d.pop(k), k within -/
theorem ws_dpop (hb : Bc W X bx) (i : Nat) {kvs : List (Key × D)} {x : Str} {p apos cpos : Pos} (hΓ : Γ[i]? = some (.own (O.dc kvs))) (h : PP X ix Γ fun kd => ∃ k d, kd = kD k ∧ dGet kvs k = some d ∧ E.nx (Γ.set i (.own (O.dc (dDrop kvs k))))) (hN : bx.N[i]? = some x := by rfl)
    (hv : Vis bx.sc x := by first | exact Or.inl rfl | exact Or.inr (Or.inl rfl) | exact Or.inr (Or.inr rfl)) (hd : (x == ("__debug__" : Str)) = false := by decide) (hcd : (x == ("__classdict__" : Str)) = false := by decide)
    (m1 : M1 X (.Name x p) "pop" apos ix cpos := by exact ⟨rfl, rfl, rfl, rfl⟩) (hsw : swapsWith (.Call (.Attribute (.Name x p) "pop" apos) [ix] [] cpos) none pos.line X.env = pure false := by rfl) :
    WS X (.Expr (.Call (.Attribute (.Name x p) "pop" apos) [ix] [] cpos) pos) Γ E := fun en σ B H D rp eo => by
  obtain ⟨v, f, h1, h2, _⟩ := rp.mut hΓ
  refine ⟨_, ps_expr (pe_dpop1 (pe_var (by rw [hb.nn]; exact hN) (by rw [hb.sco]; exact hv) hd hcd) (be X ix) m1) hsw, v, h1, ?_⟩
  cases h2 with
  | @dic a vals _ f nB hH om nf =>
    refine ⟨a, rfl, .inl ⟨vals, .inl hH⟩, h en σ B H rp _ fun w kd B2 H2 g2 ⟨k, d, ek, hk, q2⟩ mk => ?_⟩
    subst ek
    obtain rfl := kd_dq mk
    have rp2 := g2.rp rp
    obtain ⟨v', f', h1', h2', kk⟩ := rp2.mut hΓ
    rw [h1] at h1'
    cases h1'
    cases h2' with
    | @dic _ vals' _ f' nB' hH' om' nf' =>
      obtain ⟨ef, mm⟩ := ORM.vals_inv om'
      subst ef
      rcases mm.look k with ⟨_, z⟩ | ⟨v, d', hv, _, _⟩
      · rw [z] at hk; cases hk
      · exact ⟨vals', k, v, hH', rfl, hv, eo.nx B2 _ σ _ g2.gr.b (kk a List.mem_cons_self _ (O.dc (dDrop kvs k)) [a] (fun _ z => z) (.dic nB' upd_same (ORM.vals (mm.drop k)) (by simp))) q2⟩
/-- (a part of an owned list)[ix].append(e) -/
theorem orl_at {K : PySem.W.Frag} {B H : Hp} {j : Nat} {o : O} : ∀ {vs : List V} {os : List O} {f : List Addr}, ORL K B H vs os f → os[j]? = some o → ∃ v g, vs[j]? = some v ∧ OR K B H v o g ∧ (∀ a ∈ g, a ∈ f) ∧
    ∀ p ∈ g, ∀ ho o', OR K B (upd H p ho) v o' g → ORL K B (upd H p ho) vs (os.set j o') f := by
  induction j with
  | zero =>
    intro vs os f h e
    cases h with
    | nil => cases e
    | @cons v o1 vs os f g h1 h2 h3 =>
      cases e
      refine ⟨v, f, rfl, h1, fun a ha => List.mem_append_left _ ha, fun p hp ho o' w => ?_⟩
      exact .cons w (ORL.keep Sub.rfl'.le _ _ _ h2 fun a ha => ⟨upd_ne fun z => h3 p hp (z ▸ ha), (ORL.foot _ _ _ h2 a ha).1⟩) h3
  | succ j ih =>
    intro vs os f h e
    cases h with
    | nil => cases e
    | @cons v o1 vs os f g h1 h2 h3 =>
      obtain ⟨v', g', e1, e2, e3, e4⟩ := ih h2 (by simpa using e)
      refine ⟨v', g', by simpa using e1, e2, fun a ha => List.mem_append_right _ (e3 a ha), fun p hp ho o' w => ?_⟩
      exact .cons (OR.keep Sub.rfl'.le _ _ _ h1 fun a ha => ⟨upd_ne fun z => h3 a ha (z ▸ e3 p hp), (OR.foot _ _ _ h1 a ha).1⟩) (e4 p hp ho o' w) h3
theorem ws_appAt (hb : Bc W X bx) (i : Nat) {os : List O} {x : Str} {p p2 apos cpos : Pos} (hΓ : Γ[i]? = some (.own (.lst os)))
    (h : PP X ix Γ fun kd => ∃ (k : Int) (ds : List D), kd = .int k ∧ 0 ≤ k ∧ os[k.toNat]? = some (O.ls ds) ∧ ds.length < sizeLine ∧ PP X e Γ fun d => E.nx (Γ.set i (.own (.lst (os.set k.toNat (O.ls (ds ++ [d]))))))) (hN : bx.N[i]? = some x := by rfl)
    (hv : Vis bx.sc x := by first | exact Or.inl rfl | exact Or.inr (Or.inl rfl) | exact Or.inr (Or.inr rfl)) (hd : (x == ("__debug__" : Str)) = false := by decide) (hcd : (x == ("__classdict__" : Str)) = false := by decide)
    (hix : PlainIx ix := by intro _ _; rfl) (hs : starEach [e] X.env = [(false, eval e X.env)] := by rfl) (hbase : attributeBase (.Subscript (.Name x p) ix p2) "append" X.env (eval (.Subscript (.Name x p) ix p2) X.env) = eval (.Subscript (.Name x p) ix p2) X.env := by rfl)
    (hfew : ((backTo cpos (starEach [e] X.env)).all (fun x => !x.1) && (backToKw cpos (keywordEach [] X.env)).all (fun x => x.1.isSome) && decide (([e] : List Expr).length + ([] : List Keyword).length + (if ([] : List Keyword).isEmpty then 0 else 1) < 30)) = true := by rfl)
    (hline : (apos.endLine == cpos.line) = true := by rfl) (hpl : (backTo cpos (starEach [] X.env)).any (·.1) = false := by rfl) (hsw : swapsWith (.Call (.Attribute (.Subscript (.Name x p) ix p2) "append" apos) [e] [] cpos) none pos.line X.env = pure false := by rfl) :
    WS X (.Expr (.Call (.Attribute (.Subscript (.Name x p) ix p2) "append" apos) [e] [] cpos) pos) Γ E := fun en σ B H D rp eo => by
  refine ⟨_, ps_expr (pe_bm PySem.F.plainAttrs_list PySem.F.slot_list_append PySem.F.type_list_append mt_append (pe_ix ix_list (pe_var (by rw [hb.nn]; exact hN) (by rw [hb.sco]; exact hv) hd hcd) (be X ix) hix) (pa_cons (be X e) pa_nil hs) hbase hfew hline hs hpl) hsw, ?_⟩
  obtain ⟨v, f, h1, h2, _⟩ := rp.mut hΓ
  refine ⟨v, h1, h en σ B H rp _ fun w kd B2 H2 g2 ⟨k, ds, ek, hk0, hk, hl, q2⟩ mk => ?_⟩
  subst ek
  cases mk
  have rp2 := g2.rp rp
  obtain ⟨v', f', h1', h2', _⟩ := rp2.mut hΓ
  rw [h1] at h1'
  cases h1'
  cases h2' with
  | @lst a xs _ f' nB' hH' ol nf' =>
    obtain ⟨vk, g, e1, e2, e3, _⟩ := orl_at ol hk
    have hlx : xs.length = os.length := orl_len ol
    have hkl : k.toNat < xs.length := (List.getElem?_eq_some_iff.mp e1).1
    have hat : atI xs k = some vk := by
      unfold atI ixN
      rw [if_pos hk0, if_pos (by omega)]
      exact e1
    refine ⟨a, xs, k, vk, rfl, rfl, .inl (.inl hH'), hat, ?_⟩
    cases e2 with
    | @lst b ys _ g nB2 hH2 ol2 nf2 =>
      refine ⟨.inl ⟨rfl, ys, .inl (.inl hH2)⟩, q2 en σ B2 H2 rp2 _ fun u d B3 H3 g3 q3 m3 => ?_⟩
      have rp3 := g3.rp rp2
      obtain ⟨v3, f3, h13, h23, kk⟩ := rp3.mut hΓ
      rw [h1] at h13
      cases h13
      cases h23 with
      | @lst _ xs3 _ f3 nB3 hH3 ol3 nf3 =>
        obtain ⟨vk3, g3', e13, e23, e33, e43⟩ := orl_at ol3 hk
        -- the list's items stand as they stood
        have keep : xs3 = xs := by
          have nM : ¬ en.M a := fun m => (rp.me a m).1 (by
            obtain ⟨F, z1, z2, z3⟩ := rp2.sl
            have w := z3 i
            rw [hΓ] at w
            obtain ⟨v5, y1, y2⟩ := w
            rw [h1] at y1
            cases y1
            generalize hF : F i = Fi at y2
            cases y2 with
            | lst => exact z2 i a (by rw [hF]; exact List.mem_cons_self))
          have := g3.gr.h a _ hH' nB' nM
          rw [hH3] at this
          cases this
          rfl
        rw [keep, e1] at e13
        cases e13
        cases e23 with
        | @lst _ ys3 _ g4 nB4 hH4 ol4 nf4 =>
          have hly : ys3.length = ds.length := by
            have := orl_len ol4
            simpa using this
          refine ⟨b, ys3, u, rfl, rfl, hH4, by omega, eo.nx B3 _ σ _ (g2.tr g3).gr.b (kk b (List.mem_cons_of_mem _ (e33 b List.mem_cons_self)) _ (.lst (os.set k.toNat (O.ls (ds ++ [d])))) (a :: f3) (fun _ z => z) (.lst nB3 ?_ (e43 b List.mem_cons_self _ _ ?_) nf3)) q3⟩
          · rw [upd_ne fun z => nf3 (by rw [z]; exact e33 b List.mem_cons_self)]
            exact hH3
          · obtain ⟨eg, mm⟩ := ORL.vals_inv ol4
            subst eg
            exact .lst nB4 upd_same (ORL.vals (mm.snoc m3)) (by simp)
end
end Dn

/-! Dn8: a def by its body; list, tuple, dict data: subscripts, slices, +, ==, in, len, sum, max, any, all. -/
namespace Dn
open PySem PySem.Spec L2 RZ

section
variable {W : Wd} {X : Cx} {bx : Bx} {Γ : List Slot} {a b c e ix : Expr} {pos : Pos} {R : O → Prop} {P : D → Prop} {T : Bool → Prop} {K : PySem.W.Frag} {B H : Hp}

/-! ### a def by its body -/
theorem own_nox {X : Cx} (h1 : X.stack = X.env :: X.outer) (h2 : X.env.frame = some X.env.locals) : Own X.nox := ⟨PassesOwn.never, h1, h2⟩
theorem start_at {N : List Str} {vs : List V} {i : Nat} (h : vs.length ≤ N.length) : (L2.start N vs)[i]? = if i < vs.length then (vs[i]?).map some else if i < N.length then some none else none := by
  unfold L2.start
  by_cases q : i < vs.length
  · rw [if_pos q, List.getElem?_append_left (by simpa using q), List.getElem?_map]
  · rw [if_neg q, List.getElem?_append_right (by simp; omega), List.getElem?_replicate]
    simp only [List.length_map]
    by_cases z : i < N.length
    · rw [if_pos (by omega), if_pos z]
    · rw [if_neg (by omega), if_neg z]
def begin0 (N : List Str) (n : Nat) (pre : List Slot) : List Slot := pre ++ List.replicate (N.length - n) .no
theorem rp_begin {M : Addr → Prop} {N : List Str} {vs : List V} {ds : List D} (le : Le B H) (m : DqL K B vs ds) (hl : vs.length ≤ N.length) : Rp K ⟨B, H, NoM, none, []⟩ B H (L2.start N vs) (begin0 N vs.length (ds.map Slot.v)) := by
  have hd := m.length
  refine ⟨le, Gr.rfl', ?_, trivial, ⟨fun _ => [], (fun _ _ _ z => nomatch z), (fun _ _ z => nomatch z), fun i => ?_⟩, fun _ z => z.elim, fun _ z => nomatch z⟩
  · unfold L2.start begin0
    simp [hd]
  · rw [start_at hl]
    unfold begin0
    by_cases q : i < vs.length
    · rw [if_pos q, List.getElem?_append_left (by simp; omega), List.getElem?_map]
      obtain ⟨d, e1⟩ : ∃ d, ds[i]? = some d := ⟨ds[i], by simp [hd ▸ q]⟩
      obtain ⟨v, e2, e3⟩ := m.get e1
      rw [e1, e2]
      exact ⟨v, rfl, .val e3⟩
    · rw [if_neg q, List.getElem?_append_right (by simp; omega), List.getElem?_replicate]
      split <;> split <;> exact rfl
theorem rp_beginB {M : Addr → Prop} {I : O → Prop} {N : List Str} {h : V} {vs : List V} {ds : List D} (le : Le B H) (me : ∀ a, M a → H a ≠ none ∧ B a = none) (w : BwOk K M (some (h, I)) B H) (m : DqL K B vs ds) (hl : (h :: vs).length ≤ N.length) :
    Rp K ⟨B, H, M, some (h, I), []⟩ B H (L2.start N (h :: vs)) (begin0 N (h :: vs).length (.bor I :: ds.map Slot.v)) := by
  have hd := m.length
  refine ⟨le, Gr.rfl', ?_, w, ⟨fun _ => [], (fun _ _ _ z => nomatch z), (fun _ _ z => nomatch z), fun i => ?_⟩, me, fun _ z => nomatch z⟩
  · unfold L2.start begin0
    simp [hd]
  · rw [start_at hl]
    unfold begin0
    cases i with
    | zero => exact ⟨h, rfl, rfl, rfl⟩
    | succ i =>
      by_cases q : i < vs.length
      · rw [if_pos (by simpa using q), List.getElem?_append_left (by simp; omega)]
        simp only [List.getElem?_cons_succ, List.getElem?_map]
        obtain ⟨d, e1⟩ : ∃ d, ds[i]? = some d := ⟨ds[i], by simp [hd ▸ q]⟩
        obtain ⟨v, e2, e3⟩ := m.get e1
        rw [e1, e2]
        exact ⟨v, rfl, .val e3⟩
      · rw [if_neg (by simpa using q), List.getElem?_append_right (by simp; omega), List.getElem?_replicate]
        split <;> split <;> exact rfl

/-- the layer beneath's rule, where nothing is being shown -/
theorem gn_of {x qual : Str} {st : Stmt} {f : Addr} {fd : FuncData} {N ps : List Str} {k : Nat} {sp : Sp} (hc : W.calm) (F : Fun W.K x qual st f fd) (Sc : FnScope N ps (defScope st)) (len : ∀ vs H Q E, sp vs H Q E → vs.length = ps.length)
    (go : ∀ X, Bc W X ⟨k, N, defScope st, fun _ => true⟩ → Own X → ∀ vs H Q E, sp vs H Q E → bSs X (defBody st) { nx := fun _ H' => Q .non H', rt := Q } (L2.start N vs) H) : Gn W (k + 1) f fd ps sp := by
  obtain ⟨oc, od, kV, doc, pm, an, cdv, ct, osl, rfl, lk, hcd⟩ := F.ex
  refine ⟨len, fun A outer s0 H ar us vs Q E hr hg e0 hb r hsp => ?_⟩
  have hl := len _ _ _ _ hsp
  have inK : W.K.In s0.heap := e0.mod.kin.keeps fun b o e => (e0.bs b o e).1
  have nolim : s0.heap.NoLimit := e0.mod.nolimit.keeps fun b o e => (e0.bs b o e).1
  have kinds : ∀ y ∈ ps.zip us, (defScope st).names.lookup y.1 = some .local ∨ ((defScope st).names.lookup y.1 = some .cell ∧ ((cellsFrom (s0.heap.objs.size + 1) (defScope st).names []).lookup y.1).isSome = true) := fun ⟨n, v⟩ hy => by
    rcases Sc.par n (List.of_mem_zip hy).1 with q | q
    · exact .inl q
    · exact .inr ⟨q, PySem.W.cellsFrom_some _ _ _ (.inl q)⟩
  refine codeAny_call_function hr.depth (inK _ _ lk) rfl Sc.co Sc.gen rfl (PySem.W.codeRec_of inK hcd) (hb _ _ _ _ ?_)
  refine wpAny_newFunctionEnv_cells Sc.kind kinds fun env he s1 xx => ?_
  subst he
  refine ⟨nolim.keeps xx.toInCall.keep, codeAny_func ?_⟩
  have bc : Bc W (cxOf W.CX W.P W.w W.K W.mg W.base N qual (defScope st) f cdv A outer s0 H E).nox ⟨k, N, defScope st, fun _ => true⟩ :=
    ⟨rfl, rfl, rfl, rfl, rfl, rfl, Sc.nd, rfl, rfl, rfl, hr.deeper _, hg, fun _ _ _ _ _ _ _ h => (hc _ _ _ _ _ h).elim⟩
  obtain ⟨t, ht, hq⟩ := go _ bc (own_nox rfl rfl) vs H Q E hsp
  have I0 : Inv (cxOf W.CX W.P W.w W.K W.mg W.base N qual (defScope st) f cdv A outer s0 H E) [] (L2.start N vs) H s1 := inv_start Sc hr.hd e0 hl r xx
  refine wpAny_mono (ht.nox.run [] s1 (L2.start N vs) H _ I0 hq) (fun fl s2 hs => ?_) fun er s2 hs => hs
  have fin : ∀ {σ' : St} {H' : Hp} {v : V} {u : Value}, Inv (cxOf W.CX W.P W.w W.K W.mg W.base N qual (defScope st) f cdv A outer s0 H E) [] σ' H' s2 → RelV v u → Q v H' → CE outer W.P W.w H s0 Q u s2 :=
    fun {σ' H' v u} J rv q => ⟨v, H', J.os, J.bare, J.base, J.hok, rv, q⟩
  match fl, hs with
  | .ret u, hs =>
    obtain ⟨v, σ', H', J, rv, q⟩ := hs
    exact fin J rv q
  | .next, hs =>
    obtain ⟨σ', H', J, q⟩ := hs
    exact fin (v := V.non) (u := Value.none) J rfl q
  | .brk, hs =>
    obtain ⟨_, _, _, q⟩ := hs
    exact q.elim
  | .cont, hs =>
    obtain ⟨_, _, _, q⟩ := hs
    exact q.elim
theorem Df.mkP {x qual : Str} {st : Stmt} {f : Addr} {fd : FuncData} {N ps : List Str} {k n : Nat} {S : Sg} (hc : W.calm) (F : Fun W.K x qual st f fd) (hm : W.mg x = some (.ref f)) (Sc : FnScope N ps (defScope st)) (hn : ps.length = n) (bn : Binds W.K fd ps [])
    (go : ∀ X, Bc W X ⟨k, N, defScope st, fun _ => true⟩ → Own X → ∀ ds R, ds.length = n → S ds R → WSs X (defBody st) (begin0 N n (ds.map Slot.v)) { nx := fun _ => R (.val .non), rt := R }) : Df W (k + 1) x (spP W.K n S) := by
  refine ⟨f, fd, ps, gn_of hc F Sc (fun vs H Q E h => ?_) fun X hb ho vs H Q E h => ?_, hm, F.kp, bn⟩
  · obtain ⟨_, _, _, h1, _⟩ := h
    exact h1.trans hn.symm
  · obtain ⟨B, ds, R, hl, le, m, hS, q⟩ := h
    have hN : vs.length ≤ N.length := by
      have := congrArg List.length Sc.pre
      rw [List.length_take] at this
      omega
    have rp := rp_begin (M := NoM) le m hN
    rw [hl] at rp
    rw [← hb.kk] at rp q
    refine go X hb ho ds R (m.length.symm.trans hl) hS _ _ B H _ rp ⟨fun B' H' σ' Γ' s r z => ?_, fun _ _ _ _ _ _ z => z.elim, fun _ _ _ _ _ _ z => z.elim, fun v o f B' H' s g l w k z ro nf => ?_, .no⟩
    · exact q .non (.val .non) [] B' H' r.gr r.le z (.val .non) fun _ z => nomatch z
    · exact q v o f B' H' g l z ro nf
theorem Df.mkB {x qual : Str} {st : Stmt} {f : Addr} {fd : FuncData} {N ps : List Str} {k n : Nat} {I : O → Prop} {S : Sg} (hc : W.calm) (F : Fun W.K x qual st f fd) (hm : W.mg x = some (.ref f)) (Sc : FnScope N ps (defScope st)) (hn : ps.length = n + 1) (bn : Binds W.K fd ps [])
    (go : ∀ X, Bc W X ⟨k, N, defScope st, fun _ => true⟩ → Own X → ∀ ds R, ds.length = n → S ds R → WSs X (defBody st) (begin0 N (n + 1) (.bor I :: ds.map Slot.v)) { nx := fun _ => R (.val .non), rt := R }) : Df W (k + 1) x (spB W.K I n S) := by
  refine ⟨f, fd, ps, gn_of hc F Sc (fun vs H Q E h => ?_) fun X hb ho vs H Q E h => ?_, hm, F.kp, bn⟩
  · obtain ⟨_, _, _, _, _, _, rfl, h1, _⟩ := h
    simp [h1, hn]
  · obtain ⟨M, B, h0, ws, ds, R, rfl, hl, le, me, w, m, hS, q⟩ := h
    have hN : (h0 :: ws).length ≤ N.length := by
      have := congrArg List.length Sc.pre
      rw [List.length_take] at this
      simp only [List.length_cons]
      omega
    have rp := rp_beginB le me w m hN
    rw [List.length_cons, hl] at rp
    rw [← hb.kk] at rp q
    refine go X hb ho ds R (m.length.symm.trans hl) hS _ _ B H _ rp ⟨fun B' H' σ' Γ' s r z => ?_, fun _ _ _ _ _ _ z => z.elim, fun _ _ _ _ _ _ z => z.elim, fun v o f B' H' s g l w k z ro nf => ?_, .no⟩
    · exact q .non (.val .non) [] B' H' r.gr r.le r.bw z (.val .non) fun _ z => nomatch z
    · exact q v o f B' H' g l w z ro nf

/-! ### subscripts, slices -/
theorem atI_map {α β : Type} {F : α → β} {xs : List α} {i : Int} : atI (xs.map F) i = (atI xs i).map F := by
  unfold atI
  rw [List.length_map]
  cases ixN xs.length i with
  | none => rfl
  | some j => simp
theorem dq_atI {xs : List V} {ds : List D} (m : DqL K B xs ds) {i : Int} {d : D} (h : atI ds i = some d) : ∃ v, atI xs i = some v ∧ Dq K B v d := by
  unfold atI at h ⊢
  rw [m.length]
  cases q : ixN ds.length i with
  | none => rw [q] at h; cases h
  | some j =>
    rw [q] at h
    exact m.get h
theorem ix_lst {ds : List D} {i : Int} {d : D} (h : atI ds i = some d) (p : P d) : Ix X (.lst ds) (.int i) P := ix_of ix_list fun B H v w le hv hw Q q => by
  cases hw
  cases hv with
  | lst h1 h2 =>
    obtain ⟨u, e1, e2⟩ := dq_atI h2 h
    exact ⟨_, _, i, u, rfl, rfl, (.inl (le.rd h1)), e1, q u d B H Gr.rfl' le p e2⟩
theorem ix_tp {ds : List D} {i : Int} {d : D} (h : atI ds i = some d) (p : P d) : Ix X (.tup ds) (.int i) P := ix_of ix_tup fun B H v w le hv hw Q q => by
  cases hw
  cases hv with
  | tup h1 h2 =>
    obtain ⟨u, e1, e2⟩ := dq_atI h2 h
    exact ⟨_, _, i, u, rfl, rfl, le.sqT h1, e1, q u d B H Gr.rfl' le p e2⟩
theorem atI_nat {α : Type} {xs : List α} {n : Nat} {x : α} (h : xs[n]? = some x) : atI xs (n : Int) = some x := by
  have hl := (List.getElem?_eq_some_iff.mp h).1
  unfold atI ixN
  rw [if_pos (by omega), if_pos (by omega)]
  exact h
theorem atI_int {α : Type} {xs : List α} {i : Int} {x : α} (h0 : 0 ≤ i) (h : xs[i.toNat]? = some x) : atI xs i = some x := by
  have := atI_nat h
  rwa [Int.toNat_of_nonneg h0] at this
/-- xs[-1] -/
theorem atI_last {α : Type} {xs : List α} {x : α} : atI (xs ++ [x]) (-1) = some x := by
  unfold atI ixN
  rw [if_neg (by omega), if_pos (by simp; omega)]
  have e : (-1 + ((xs ++ [x]).length : Int)).toNat = xs.length := by simp; omega
  show (xs ++ [x])[_]? = _
  rw [e]
  simp
/-- the subscript of a dict -/
theorem ix_dK : IxR X (fun x y H Q => ∃ p kvs k v, x = .ref p ∧ y = kV k ∧ Rd H p (.dK kvs) ∧ valV kvs k = some v ∧ X.A.units + 1 < cLine ∧ Q v H) := by
  intro value slice pins s σ H x y v u Q I rx ry h hs
  obtain ⟨p, kvs, k, w, rfl, rfl, hr, hv, hu, q⟩ := h
  cases rx
  have g : DGet H p (kV k) (some w) := .inl ⟨kvs, k, hr, rfl, hv.symm⟩
  obtain ⟨_, _, vs, _, dd⟩ := dk_rd I.hok hr
  exact PyProof.Rows.tail_any dd.typeIs (by exact PySem.F.slot_dict_getitem.lookup) (d_getItem hu I g ry fun w' s' I' r => ⟨w, H, I', r, q⟩) hs
theorem ix_dic {kvs : List (Key × D)} {k : Key} {d : D} (hb : Bc W X bx) (h : dGet kvs k = some d) (p : P d) : Ix X (.dic kvs) (kD k) P := ix_of ix_dK fun B H v w le hv hw Q q => by
  obtain rfl := kd_dq hw
  cases hv with
  | dic h1 h2 =>
    rcases h2.look k with ⟨_, z⟩ | ⟨u, d', e1, e2, e3⟩
    · rw [z] at h; cases h
    · rw [e2] at h
      cases h
      exact ⟨_, _, k, u, rfl, rfl, le.rd h1, e1, by have := hb.room.units; omega, q u d B H Gr.rfl' le p e3⟩
/-- of a tree that is read -/
theorem pp_ixO (h : PR X a Γ fun o => ∃ ds, o = O.ls ds ∧ PP X b Γ fun i => ∃ (j : Int) (d : D), i = .int j ∧ atI ds j = some d ∧ P d) (hs : PlainIx b := by intro _ _; rfl) : PP X (.Subscript a b pos) Γ P := fun en σ B H rp Q q =>
  ⟨_, pe_ix ix_list (be X a) (be X b) hs, h en σ B H rp _ fun v o f B1 H1 g1 ⟨ds, eo, p⟩ m n => by
    subst eo
    refine p en σ B1 H1 (g1.rp rp) _ fun w i B2 H2 g2 ⟨j, d, ei, hj, pd⟩ mi => ?_
    subst ei
    cases mi
    have t := g2.tree m n
    cases t with
    | lst nB hH ol nf =>
      obtain ⟨_, mm⟩ := ORL.vals_inv ol
      obtain ⟨u, e1, e2⟩ := dq_atI mm hj
      exact ⟨_, _, j, u, rfl, rfl, .inl (.inl hH), e1, q u d B2 H2 (g1.tr g2) pd e2⟩⟩
theorem pp_ixD (hb : Bc W X bx) (h : PR X a Γ fun o => ∃ kvs, o = O.dc kvs ∧ PP X b Γ fun i => ∃ k d, i = kD k ∧ dGet kvs k = some d ∧ P d) (hs : PlainIx b := by intro _ _; rfl) : PP X (.Subscript a b pos) Γ P := fun en σ B H rp Q q =>
  ⟨_, pe_ix ix_dK (be X a) (be X b) hs, h en σ B H rp _ fun v o f B1 H1 g1 ⟨ds, eo, p⟩ m n => by
    subst eo
    refine p en σ B1 H1 (g1.rp rp) _ fun w i B2 H2 g2 ⟨k, d, ei, hk, pd⟩ mi => ?_
    subst ei
    obtain rfl := kd_dq mi
    have t := g2.tree m n
    cases t with
    | dic nB hH om nf =>
      obtain ⟨_, mm⟩ := ORM.vals_inv om
      rcases mm.look k with ⟨_, z⟩ | ⟨u, d', e1, e2, e3⟩
      · rw [z] at hk; cases hk
      · rw [e2] at hk
        cases hk
        exact ⟨_, _, k, u, rfl, rfl, .inl hH, e1, by have := hb.room.units; omega, q u d B2 H2 (g1.tr g2) pd e3⟩⟩

/-- a bound of a slice -/
def PSl (X : Cx) (e : Option Expr) (Γ : List Slot) (P : Option Int → Prop) : Prop := match e with
  | none => P none
  | some e => PP X e Γ fun d => ∃ i, d = .int i ∧ P (some i)
def bSl (X : Cx) (e : Option Expr) : TO := fun σ H Q => ∃ t, L2.PO X e t ∧ t σ H Q
theorem bsl (X : Cx) (e : Option Expr) : L2.PO X e (bSl X e) := ⟨fun pins s σ H Q I ⟨_, h, q⟩ => h.run pins s σ H Q I q⟩
theorem psl_go {e : Option Expr} {S : Option Int → Prop} {en : Ent} {σ : St} (rp : Rp X.K en B H σ Γ) (h : PSl X e Γ S) {Q : Option Int → Hp → Prop} (q : ∀ o B' H', Go X.K en B H B' H' → S o → Q o H') : bSl X e σ H Q := by
  cases e with
  | none => exact ⟨_, po_none, q none B H (.refl rp) h⟩
  | some e => exact ⟨_, po_some (be X e), (show PP X e Γ _ from h) en σ B H rp _ fun v d B' H' g ⟨i, e1, p⟩ m => by
      subst e1
      cases m
      exact ⟨i, rfl, q (some i) B' H' g p⟩⟩
def cutD (xs : List D) (lo hi : Option Int) : List D := (xs.drop (HT.sIx xs.length 0 lo)).take (HT.sIx xs.length xs.length hi - HT.sIx xs.length 0 lo)
theorem dq_cut {xs : List V} {ds : List D} (m : DqL K B xs ds) (lo hi : Option Int) : DqL K B (cutV xs lo hi) (cutD ds lo hi) := by
  unfold cutV cutD
  rw [m.length]
  exact (m.drop _).take _
/-- xs[lo:hi] of a list -/
theorem pp_slL {lo hi : Option Expr} {p2 : Pos} (h : PP X a Γ fun d => ∃ ds, d = .lst ds ∧ PSl X lo Γ fun l => PSl X hi Γ fun u => P (.lst (cutD ds l u))) : PP X (.Subscript a (.Slice lo hi none p2) pos) Γ P := fun en σ B H rp Q q =>
  ⟨_, pe_slice sl_list (be X a) (bsl X lo) (bsl X hi), h en σ B H rp _ fun v d B1 H1 g1 ⟨ds, e1, p⟩ m => by
    subst e1
    refine psl_go (g1.rp rp) p fun l B2 H2 g2 p2 => psl_go (g2.rp (g1.rp rp)) p2 fun u B3 H3 g3 p3 => ?_
    have m3 := (g2.tr g3).up m
    cases m3 with
    | lst h1 h2 =>
      refine ⟨_, _, rfl, (.inl (g3.le.rd h1)), fun pp n => ?_⟩
      exact q _ _ _ _ (g1.tr (g2.tr (g3.tr (.of (g3.rp (g2.rp (g1.rp rp))) (Gr.newB g3.le n) (g3.le.newB n))))) p3 (Dq.newLst g3.le n (dq_cut h2 l u))⟩
/-- .. of a tuple: the whole of it is itself -/
def rSlT2 (K : PySem.W.Frag) : V → Option Int → Option Int → Hp → VK → Prop := fun x lo hi H Q => ∃ a xs, x = .ref a ∧ SqT K H a xs ∧
  (if HT.sIx xs.length 0 lo = 0 ∧ HT.sIx xs.length xs.length hi = xs.length then Q (.ref a) H else ∀ p, H p = none → Q (.ref p) (upd H p (.tup (cutV xs lo hi))))

/-! ### list + list -/
theorem op_catL : OpR X (binaryOp .Add) (fun x y H Q => ∃ l b xs zs, x = .ref l ∧ y = .ref b ∧ Rd H l (.lst xs) ∧ Rd H b (.lst zs) ∧ xs.length + zs.length ≤ sizeLine ∧ ∀ p, H p = none → Q (.ref p) (upd H p (.lst (xs ++ zs)))) := by
  intro pins s σ H x y v u Q I rx ry h
  obtain ⟨l, b, xs, zs, rfl, rfl, hl, hb, hz, q⟩ := h
  cases rx
  cases ry
  obtain ⟨_, its, n, r, e⟩ := hl.ok I.hok
  obtain ⟨_, its2, n2, r2, e2⟩ := hb.ok I.hok
  have l1 := r.length
  have l2 := r2.length
  refine PySem.P.add_list e e2 ?_ (by rw [List.size_toArray, List.size_toArray]; omega)
  rw [show its.toArray ++ its2.toArray = (its ++ its2).toArray by simp]
  exact ⟨.ref s.heap.objs.size, _, I.lnew (t' := s.toks) (r.append r2) (by rw [List.length_append]; omega), rfl, q _ I.fresh⟩
theorem o_catL {ds es : List D} (hz : ds.length + es.length ≤ sizeLine) (p : P (.lst (ds ++ es))) : Op X .Add (.lst ds) (.lst es) P := op_of op_catL fun B H v w le hv hw Q q => by
  cases hv with
  | lst h1 h2 =>
    cases hw with
    | lst h3 h4 =>
      exact ⟨_, _, _, _, rfl, rfl, le.rd h1, le.rd h3, by rw [h2.length, h4.length]; exact hz, fun pp n => q _ _ _ _ (Gr.newB le n) (le.newB n) p (Dq.newLst le n (h2.app h4))⟩
end
end Dn

/-! Dn9: ==, in of data; built-ins on data. -/
namespace Dn
open PySem PySem.Spec L2 RZ

/-! ### data as the library has it -/
mutual
def D.py : D → PyData
  | .non => .none
  | .bl b => .bool b
  | .int i => .int i
  | .str x => .str x
  | .tup ds => .tuple (D.pys ds)
  | .lst ds => .list (D.pys ds)
  | .dic ds => .dict (D.pym ds)
  | .scr ns => .list (ns.map .int)
def D.pys : List D → List PyData
  | [] => []
  | d :: ds => d.py :: D.pys ds
def D.pym : List (Key × D) → List (PyData × PyData)
  | [] => []
  | (k, d) :: ds => ((match k with | .inl i => .int i | .inr x => .str x), d.py) :: D.pym ds
end
theorem pys_map : ∀ ds : List D, D.pys ds = ds.map D.py
  | [] => rfl
  | d :: ds => by simp [D.pys, pys_map ds]
/-- no dict in it, texts as texts are, n levels at most -/
def Sh : Nat → D → Prop
  | _, .non => True
  | _, .bl _ => True
  | _, .int _ => True
  | _, .str x => PyData.strOk x = true
  | n + 1, .tup ds => ∀ d ∈ ds, Sh n d
  | n + 1, .lst ds => ∀ d ∈ ds, Sh n d
  | _, _ => False
/-- .. and no bool -/
def NoB : Nat → D → Prop
  | _, .non => True
  | _, .int _ => True
  | _, .str _ => True
  | n + 1, .tup ds => ∀ d ∈ ds, NoB n d
  | n + 1, .lst ds => ∀ d ∈ ds, NoB n d
  | _, _ => False
section
variable {K : PySem.W.Frag} {B H : Hp}
theorem dpAll_of {n : Nat} (ih : ∀ (d : D) (v : V), Sh n d → Dq K B v d → Dp K B v d.py) : ∀ (ds : List D) (vs : List V), (∀ d ∈ ds, Sh n d) → DqL K B vs ds → DpAll K B vs (D.pys ds)
  | [], _, _, h => by cases h; exact .nil
  | d :: ds, _, s, h => by
    cases h with
    | cons h1 h2 => exact .cons (ih d _ (s d List.mem_cons_self) h1) (dpAll_of ih ds _ (fun x hx => s x (List.mem_cons_of_mem _ hx)) h2)
theorem Dq.dp : ∀ (n : Nat) (d : D) (v : V), Sh n d → Dq K B v d → Dp K B v d.py
  | n, .non, _, _, h => by cases h; exact .non
  | n, .bl _, _, _, h => by cases h; exact .bl _
  | n, .int _, _, _, h => by cases h; exact .int _
  | n, .str _, _, _, h => by cases h; exact .str _
  | n + 1, .tup ds, _, s, h => by
    cases h with
    | tup h1 h2 => exact .tup h1 (dpAll_of (Dq.dp n) ds _ s h2)
  | n + 1, .lst ds, _, s, h => by
    cases h with
    | lst h1 h2 => exact .lst (.inl h1) (dpAll_of (Dq.dp n) ds _ s h2)
  | 0, .dic _, _, s, _ => s.elim
  | n + 1, .dic _, _, s, _ => s.elim
  | 0, .scr _, _, s, _ => s.elim
  | n + 1, .scr _, _, s, _ => s.elim
theorem sh_lay : ∀ (n : Nat) (d : D), Sh n d → d.py.canLay0 = true ∧ d.py.depth ≤ n
  | n, .non, _ => ⟨rfl, Nat.zero_le _⟩
  | n, .bl _, _ => ⟨rfl, Nat.zero_le _⟩
  | n, .int _, _ => ⟨rfl, Nat.zero_le _⟩
  | n, .str x, s => by
    refine ⟨?_, Nat.zero_le _⟩
    have s' : PyData.strOk x = true := by cases n <;> exact s
    simpa [D.py, PyData.canLay0] using s'
  | n + 1, .tup ds, s => by
    have : PyData.canLayAll0 (D.pys ds) = true ∧ PyData.depthAll (D.pys ds) ≤ n := by
      have s' : ∀ d ∈ ds, Sh n d := s
      clear s
      induction ds with
      | nil => exact ⟨rfl, Nat.zero_le _⟩
      | cons d ds ih =>
        obtain ⟨h1, h2⟩ := ih fun x hx => s' x (List.mem_cons_of_mem _ hx)
        obtain ⟨h3, h4⟩ := sh_lay n d (s' d List.mem_cons_self)
        refine ⟨?_, ?_⟩
        · simp [D.pys, PyData.canLayAll0, h1, h3]
        · simp [D.pys, PyData.depthAll]; omega
    exact ⟨by simpa [D.py, PyData.canLay0] using this.1, by simp [D.py, PyData.depth]; exact this.2⟩
  | n + 1, .lst ds, s => by
    have : PyData.canLayAll0 (D.pys ds) = true ∧ PyData.depthAll (D.pys ds) ≤ n := by
      have s' : ∀ d ∈ ds, Sh n d := s
      clear s
      induction ds with
      | nil => exact ⟨rfl, Nat.zero_le _⟩
      | cons d ds ih =>
        obtain ⟨h1, h2⟩ := ih fun x hx => s' x (List.mem_cons_of_mem _ hx)
        obtain ⟨h3, h4⟩ := sh_lay n d (s' d List.mem_cons_self)
        refine ⟨?_, ?_⟩
        · simp [D.pys, PyData.canLayAll0, h1, h3]
        · simp [D.pys, PyData.depthAll]; omega
    exact ⟨by simpa [D.py, PyData.canLay0] using this.1, by simp [D.py, PyData.depth]; exact this.2⟩
  | 0, .dic _, s => s.elim
  | n + 1, .dic _, s => s.elim
  | 0, .scr _, s => s.elim
  | n + 1, .scr _, s => s.elim
theorem shaped_of {n : Nat} {d : D} (s : Sh n d) (h : n ≤ 64 := by decide) : SeqAt.shaped d.py = true := by
  obtain ⟨h1, h2⟩ := sh_lay n d s
  unfold SeqAt.shaped
  rw [h1, decide_eq_true (Nat.le_trans h2 h)]
  rfl
theorem eqvAll_iff {n : Nat} (ih : ∀ (d e : D), NoB n d → NoB n e → (PyData.eqv d.py e.py = true ↔ d = e)) : ∀ (ds es : List D), (∀ d ∈ ds, NoB n d) → (∀ d ∈ es, NoB n d) → (PyData.eqvAll (D.pys ds) (D.pys es) = true ↔ ds = es)
  | [], [], _, _ => by simp [D.pys, PyData.eqvAll]
  | [], _ :: _, _, _ => by simp [D.pys, PyData.eqvAll]
  | _ :: _, [], _, _ => by simp [D.pys, PyData.eqvAll]
  | d :: ds, e :: es, h1, h2 => by
    have q := ih d e (h1 d List.mem_cons_self) (h2 e List.mem_cons_self)
    have r := eqvAll_iff ih ds es (fun x hx => h1 x (List.mem_cons_of_mem _ hx)) (fun x hx => h2 x (List.mem_cons_of_mem _ hx))
    simp only [D.pys, PyData.eqvAll, Bool.and_eq_true, q, r, List.cons.injEq]
theorem eqv_iff : ∀ (n : Nat) (d e : D), NoB n d → NoB n e → (PyData.eqv d.py e.py = true ↔ d = e) := by
  intro n
  induction n with
  | zero => intro d e h1 h2; cases d <;> cases e <;> simp_all [NoB, D.py, PyData.eqv]
  | succ n ih =>
    intro d e h1 h2
    have A : ∀ ds es, (∀ d ∈ ds, NoB n d) → (∀ d ∈ es, NoB n d) → (PyData.eqvAll (D.pys ds) (D.pys es) = true ↔ ds = es) := eqvAll_iff ih
    cases d <;> cases e <;> simp_all [NoB, D.py, PyData.eqv]
end

section
variable {W : Wd} {X : Cx} {bx : Bx} {Γ : List Slot} {a b c e ix : Expr} {pos : Pos} {R : O → Prop} {P : D → Prop} {T : Bool → Prop} {K : PySem.W.Frag} {B H : Hp}
theorem c_eqv (hb : Bc W X bx) {n m : Nat} {x y : D} (hx : Sh n x) (hy : Sh m y) (t : T (PyData.eqv x.py y.py)) (hn : n ≤ 64 := by decide) (hm : m ≤ 64 := by decide) : Cmp X .Eq x y T :=
  cmp_of (op_eqD hb.room.units) fun H v w hv hw Q q => ⟨_, _, hv.dp n _ _ hx, hw.dp m _ _ hy, shaped_of hx hn, shaped_of hy hm, q _ t⟩
theorem c_nev (hb : Bc W X bx) {n m : Nat} {x y : D} (hx : Sh n x) (hy : Sh m y) (t : T (!PyData.eqv x.py y.py)) (hn : n ≤ 64 := by decide) (hm : m ≤ 64 := by decide) : Cmp X .NotEq x y T :=
  cmp_of (op_neD hb.room.units) fun H v w hv hw Q q => ⟨_, _, hv.dp n _ _ hx, hw.dp m _ _ hy, shaped_of hx hn, shaped_of hy hm, q _ t⟩
theorem eqv_int {i j : Int} : PyData.eqv (D.int i).py (D.int j).py = decide (i = j) := by
  simp only [D.py, PyData.eqv]
  rw [Bool.eq_iff_iff]
  simp
theorem eqv_str {i j : Str} : PyData.eqv (D.str i).py (D.str j).py = decide (i = j) := by
  simp only [D.py, PyData.eqv]
  rw [Bool.eq_iff_iff]
  simp
theorem scal_eq {x y : V} (hs : scal x y = true) {d e : D} (hx : ∀ (K : PySem.W.Frag) (B : Hp) v, Dq K B v d → v = x) (hy : ∀ (K : PySem.W.Frag) (B : Hp) v, Dq K B v e → v = y) (t : T (decide (x = y))) : Cmp X .Eq d e T :=
  cmp_of op_eq fun H v w hv hw Q q => by
    rw [hx _ _ _ hv, hy _ _ _ hw]
    exact ⟨hs, q _ t⟩
theorem scal_ne {x y : V} (hs : scal x y = true) {d e : D} (hx : ∀ (K : PySem.W.Frag) (B : Hp) v, Dq K B v d → v = x) (hy : ∀ (K : PySem.W.Frag) (B : Hp) v, Dq K B v e → v = y) (t : T (!decide (x = y))) : Cmp X .NotEq d e T :=
  cmp_of op_ne fun H v w hv hw Q q => by
    rw [hx _ _ _ hv, hy _ _ _ hw]
    exact ⟨hs, q _ t⟩
theorem isI {i : Int} (K : PySem.W.Frag) (B : Hp) (v : V) (h : Dq K B v (.int i)) : v = .int i := by cases h; rfl
theorem isS {i : Str} (K : PySem.W.Frag) (B : Hp) (v : V) (h : Dq K B v (.str i)) : v = .str i := by cases h; rfl
theorem c_eqI {i j : Int} (t : T (decide (i = j))) : Cmp X .Eq (.int i) (.int j) T := scal_eq (x := .int i) (y := .int j) rfl isI isI (by
  rw [show decide (V.int i = V.int j) = decide (i = j) by simp]
  exact t)
theorem c_neI {i j : Int} (t : T (!decide (i = j))) : Cmp X .NotEq (.int i) (.int j) T := scal_ne (x := .int i) (y := .int j) rfl isI isI (by
  rw [show decide (V.int i = V.int j) = decide (i = j) by simp]
  exact t)
theorem c_eqS {i j : Str} (t : T (decide (i = j))) : Cmp X .Eq (.str i) (.str j) T := scal_eq (x := .str i) (y := .str j) rfl isS isS (by
  rw [show decide (V.str i = V.str j) = decide (i = j) by simp]
  exact t)
theorem c_neS {i j : Str} (t : T (!decide (i = j))) : Cmp X .NotEq (.str i) (.str j) T := scal_ne (x := .str i) (y := .str j) rfl isS isS (by
  rw [show decide (V.str i = V.str j) = decide (i = j) by simp]
  exact t)

/-! ### in -/
theorem op_inT (hu : X.A.units + 65 < cLine) : OpR X (compareOp .In) (fun x y H Q => ∃ d ds, Dp X.K H x d ∧ Dp X.K H y (.tuple ds) ∧ SeqAt.shaped d = true ∧ SeqAt.shaped (.tuple ds) = true ∧ Q (.bl (ds.any fun z => PyData.eqv z d)) H) := by
  intro pins s σ H x y v u Q I rx ry h
  obtain ⟨d, ds, hd, he, sd, se, q⟩ := h
  obtain ⟨as, r1⟩ := Dp.reads I d x v hd rx
  obtain ⟨bs, r2⟩ := Dp.reads I (.tuple ds) y u he ry
  exact SeqAt.in_tuple_reads r2 r1 (SeqAt.canLay_of_shaped se) (SeqAt.canLay_of_shaped sd) (PyProof.Rows.room_in_shaped sd hu) ⟨.bl _, H, I, rfl, q⟩
theorem op_notInT (hu : X.A.units + 65 < cLine) : OpR X (compareOp .NotIn) (fun x y H Q => ∃ d ds, Dp X.K H x d ∧ Dp X.K H y (.tuple ds) ∧ SeqAt.shaped d = true ∧ SeqAt.shaped (.tuple ds) = true ∧ Q (.bl (!ds.any fun z => PyData.eqv z d)) H) := by
  intro pins s σ H x y v u Q I rx ry h
  obtain ⟨d, ds, hd, he, sd, se, q⟩ := h
  obtain ⟨as, r1⟩ := Dp.reads I d x v hd rx
  obtain ⟨bs, r2⟩ := Dp.reads I (.tuple ds) y u he ry
  exact SeqAt.notIn_tuple_reads r2 r1 (SeqAt.canLay_of_shaped se) (SeqAt.canLay_of_shaped sd) (PyProof.Rows.room_in_shaped sd hu) ⟨.bl _, H, I, rfl, q⟩
theorem u65 (hb : Bc W X bx) : X.A.units + 65 < cLine := by have := hb.room.un; omega
theorem any_py {ds : List D} {x : D} : (D.pys ds).any (fun z => PyData.eqv z x.py) = ds.any fun z => PyData.eqv z.py x.py := by
  rw [pys_map, List.any_map]
  rfl
theorem c_inT (hb : Bc W X bx) {n m : Nat} {x : D} {ds : List D} (hx : Sh n x) (hy : Sh m (.tup ds)) (t : T (ds.any fun z => PyData.eqv z.py x.py)) (hn : n ≤ 64 := by decide) (hm : m ≤ 64 := by decide) : Cmp X .In x (.tup ds) T :=
  cmp_of (op_inT (u65 hb)) fun H v w hv hw Q q => ⟨_, _, hv.dp n _ _ hx, hw.dp m _ _ hy, shaped_of hx hn, shaped_of hy hm, by rw [any_py]; exact q _ t⟩
theorem c_notInT (hb : Bc W X bx) {n m : Nat} {x : D} {ds : List D} (hx : Sh n x) (hy : Sh m (.tup ds)) (t : T (!ds.any fun z => PyData.eqv z.py x.py)) (hn : n ≤ 64 := by decide) (hm : m ≤ 64 := by decide) : Cmp X .NotIn x (.tup ds) T :=
  cmp_of (op_notInT (u65 hb)) fun H v w hv hw Q q => ⟨_, _, hv.dp n _ _ hx, hw.dp m _ _ hy, shaped_of hx hn, shaped_of hy hm, by rw [any_py]; exact q _ t⟩
theorem c_inL (hb : Bc W X bx) {n m : Nat} {x : D} {ds : List D} (hx : Sh n x) (hy : Sh m (.lst ds)) (t : T (ds.any fun z => PyData.eqv z.py x.py)) (hn : n ≤ 64 := by decide) (hm : m ≤ 64 := by decide) : Cmp X .In x (.lst ds) T :=
  cmp_of (op_inD (u65 hb)) fun H v w hv hw Q q => ⟨_, _, hv.dp n _ _ hx, hw.dp m _ _ hy, shaped_of hx hn, shaped_of hy hm, by rw [any_py]; exact q _ t⟩
theorem c_notInL (hb : Bc W X bx) {n m : Nat} {x : D} {ds : List D} (hx : Sh n x) (hy : Sh m (.lst ds)) (t : T (!ds.any fun z => PyData.eqv z.py x.py)) (hn : n ≤ 64 := by decide) (hm : m ≤ 64 := by decide) : Cmp X .NotIn x (.lst ds) T :=
  cmp_of (op_notInD (u65 hb)) fun H v w hv hw Q q => ⟨_, _, hv.dp n _ _ hx, hw.dp m _ _ hy, shaped_of hx hn, shaped_of hy hm, by rw [any_py]; exact q _ t⟩
theorem op_inK (hu : X.A.units + 1 < cLine) : OpR X (compareOp .In) (fun x y H Q => ∃ a kvs k, y = .ref a ∧ x = kV k ∧ Rd H a (.dK kvs) ∧ Q (.bl (valV kvs k).isSome) H) := by
  intro pins s σ H x y v u Q I rx ry h
  obtain ⟨a, kvs, k, rfl, rfl, hr, q⟩ := h
  cases ry
  exact d_in hu I (.inl ⟨kvs, k, hr, rfl, rfl⟩) rx fun s' I' => ⟨.bl _, H, I', rfl, q⟩
theorem op_notInK (hu : X.A.units + 1 < cLine) : OpR X (compareOp .NotIn) (fun x y H Q => ∃ a kvs k, y = .ref a ∧ x = kV k ∧ Rd H a (.dK kvs) ∧ Q (.bl (!(valV kvs k).isSome)) H) := by
  intro pins s σ H x y v u Q I rx ry h
  obtain ⟨a, kvs, k, rfl, rfl, hr, q⟩ := h
  cases ry
  exact d_notIn hu I (.inl ⟨kvs, k, hr, rfl, rfl⟩) rx fun s' I' => ⟨.bl _, H, I', rfl, q⟩
theorem look_some {xs : List (Key × V)} {kvs : List (Key × D)} (m : DqM K B xs kvs) (k : Key) : (valV xs k).isSome = (dGet kvs k).isSome := by
  rcases m.look k with ⟨h1, h2⟩ | ⟨v, d, h1, h2, _⟩ <;> rw [h1, h2] <;> rfl
theorem u1 (hb : Bc W X bx) : X.A.units + 1 < cLine := by have := hb.room.un; omega
theorem c_inK (hb : Bc W X bx) {k : Key} {kvs : List (Key × D)} (t : T (dGet kvs k).isSome) : Cmp X .In (kD k) (.dic kvs) T := cmp_of (op_inK (u1 hb)) fun H v w hv hw Q q => by
  obtain rfl := kd_dq hv
  cases hw with
  | dic h1 h2 => exact ⟨_, _, k, rfl, rfl, h1, by rw [look_some h2]; exact q _ t⟩
theorem c_notInK (hb : Bc W X bx) {k : Key} {kvs : List (Key × D)} (t : T (!(dGet kvs k).isSome)) : Cmp X .NotIn (kD k) (.dic kvs) T := cmp_of (op_notInK (u1 hb)) fun H v w hv hw Q q => by
  obtain rfl := kd_dq hv
  cases hw with
  | dic h1 h2 => exact ⟨_, _, k, rfl, rfl, h1, by rw [look_some h2]; exact q _ t⟩

/-! ### slices of tuples, of the script -/
theorem pp_slT {lo hi : Option Expr} {p2 : Pos} (h : PP X a Γ fun d => ∃ ds, d = .tup ds ∧ PSl X lo Γ fun l => PSl X hi Γ fun u => P (.tup (cutD ds l u))) : PP X (.Subscript a (.Slice lo hi none p2) pos) Γ P := fun en σ B H rp Q q =>
  ⟨_, pe_slice sl_tupA (be X a) (bsl X lo) (bsl X hi), h en σ B H rp _ fun v d B1 H1 g1 ⟨ds, e1, p⟩ m => by
    subst e1
    refine psl_go (g1.rp rp) p fun l B2 H2 g2 p2 => psl_go (g2.rp (g1.rp rp)) p2 fun u B3 H3 g3 p3 => ?_
    have m3 := (g2.tr g3).up m
    cases m3 with
    | tup h1 h2 =>
      refine ⟨_, _, rfl, g3.le.sqT h1, fun z => ?_, fun _ pp n => ?_⟩
      · refine q _ _ _ _ (g1.tr (g2.tr g3)) p3 (.tup h1 ?_)
        have e : cutD ds l u = ds := by
          unfold cutD
          rw [← h2.length, z.1, z.2]
          simp [h2.length]
        rw [e]
        exact h2
      · exact q _ _ _ _ (g1.tr (g2.tr (g3.tr (.of (g3.rp (g2.rp (g1.rp rp))) (Gr.newB g3.le n) (g3.le.newB n))))) p3 (Dq.newTup g3.le n (dq_cut h2 l u))⟩
theorem ints_dq : ∀ {ns : List Int}, DqL K B (ns.map V.int) (ns.map D.int)
  | [] => .nil
  | n :: ns => .cons (.int n) ints_dq
theorem pp_slS {lo hi : Option Expr} {p2 : Pos} (h : PP X a Γ fun d => ∃ ns, d = .scr ns ∧ PSl X lo Γ fun l => PSl X hi Γ fun u => P (.lst (cutD (ns.map .int) l u))) : PP X (.Subscript a (.Slice lo hi none p2) pos) Γ P := fun en σ B H rp Q q =>
  ⟨_, pe_slice sl_list (be X a) (bsl X lo) (bsl X hi), h en σ B H rp _ fun v d B1 H1 g1 ⟨ds, e1, p⟩ m => by
    subst e1
    refine psl_go (g1.rp rp) p fun l B2 H2 g2 p2 => psl_go (g2.rp (g1.rp rp)) p2 fun u B3 H3 g3 p3 => ?_
    have m3 := (g2.tr g3).up m
    cases m3 with
    | scr h1 =>
      refine ⟨_, _, rfl, g3.le.sqL h1, fun pp n => ?_⟩
      exact q _ _ _ _ (g1.tr (g2.tr (g3.tr (.of (g3.rp (g2.rp (g1.rp rp))) (Gr.newB g3.le n) (g3.le.newB n))))) p3 (Dq.newLst g3.le n (dq_cut ints_dq l u))⟩

/-! ### built-ins -/
theorem l_len {ds : List D} (p : P (.int ds.length)) : Cl X (.builtin "len") [.lst ds] P := cl_of call_len_seq fun B H vs le m Q q => by
  cases m with
  | cons m1 m2 =>
    cases m2
    cases m1 with
    | lst h1 h2 => exact ⟨_, _, rfl, .inl (.inl (le.rd h1)), q _ _ B H Gr.rfl' le p (by rw [h2.length]; exact .int _)⟩
theorem t_len {ds : List D} (p : P (.int ds.length)) : Cl X (.builtin "len") [.tup ds] P := cl_of call_len_seq fun B H vs le m Q q => by
  cases m with
  | cons m1 m2 =>
    cases m2
    cases m1 with
    | tup h1 h2 => exact ⟨_, _, rfl, .inr (le.sqT h1), q _ _ B H Gr.rfl' le p (by rw [h2.length]; exact .int _)⟩
theorem call_len_dK : CallR X (.builtin "len") (fun xs H Q => ∃ p kvs, xs = [.ref p] ∧ Rd H p (.dK kvs) ∧ Q (.int kvs.length) H) := by
  intro pins s σ H xs us Q I r h
  obtain ⟨p, kvs, rfl, hr, q⟩ := h
  obtain ⟨u, rfl, rx⟩ := vals1 r
  cases rx
  exact d_len I hr fun t s' I' => ⟨.int _, H, I', ⟨_, rfl⟩, q⟩
theorem d_lenD {kvs : List (Key × D)} (p : P (.int kvs.length)) : Cl X (.builtin "len") [.dic kvs] P := cl_of call_len_dK fun B H vs le m Q q => by
  cases m with
  | cons m1 m2 =>
    cases m2
    cases m1 with
    | dic h1 h2 => exact ⟨_, _, rfl, le.rd h1, q _ _ B H Gr.rfl' le p (by rw [h2.length]; exact .int _)⟩
theorem dq_ints {vs : List V} : ∀ {ns : List Int}, DqL K B vs (ns.map D.int) → vs = ns.map V.int := by
  intro ns
  induction ns generalizing vs with
  | nil => intro h; cases h; rfl
  | cons n ns ih =>
    intro h
    cases h with
    | cons h1 h2 =>
      cases h1
      rw [ih h2]
      rfl
theorem dq_bls {vs : List V} : ∀ {ns : List Bool}, DqL K B vs (ns.map D.bl) → vs = ns.map V.bl := by
  intro ns
  induction ns generalizing vs with
  | nil => intro h; cases h; rfl
  | cons n ns ih =>
    intro h
    cases h with
    | cons h1 h2 =>
      cases h1
      rw [ih h2]
      rfl
theorem l_sum (hb : Bc W X bx) {ns : List Int} (p : P (.int ns.sum)) : Cl X (.builtin "sum") [.lst (ns.map .int)] P := cl_of (cr_sum hb.calm) fun B H vs le m Q q => by
  cases m with
  | cons m1 m2 =>
    cases m2
    cases m1 with
    | lst h1 h2 =>
      have e := dq_ints h2
      subst e
      exact ⟨_, ns, rfl, .inl (le.rd h1), q _ _ B H Gr.rfl' le p (.int _)⟩
theorem l_max (hb : Bc W X bx) {ns : List Int} (h : 0 < ns.length) (p : ∀ m, m ∈ ns → (∀ y ∈ ns, y ≤ m) → P (.int m)) : Cl X (.builtin "max") [.lst (ns.map .int)] P := cl_of (cr_max hb.calm) fun B H vs le m Q q => by
  cases m with
  | cons m1 m2 =>
    cases m2
    cases m1 with
    | lst h1 h2 =>
      have e := dq_ints h2
      subst e
      exact ⟨_, ns, rfl, .inl (le.rd h1), h, fun k k1 k2 => q _ _ B H Gr.rfl' le (p k k1 k2) (.int _)⟩
theorem l_any (hb : Bc W X bx) {ns : List Bool} (p : P (.bl (ns.any id))) : Cl X (.builtin "any") [.lst (ns.map .bl)] P := cl_of (cr_any hb.calm) fun B H vs le m Q q => by
  cases m with
  | cons m1 m2 =>
    cases m2
    cases m1 with
    | lst h1 h2 =>
      have e := dq_bls h2
      subst e
      exact ⟨_, ns, rfl, .inl (le.rd h1), q _ _ B H Gr.rfl' le p (.bl _)⟩
theorem l_all (hb : Bc W X bx) {ns : List Bool} (p : P (.bl (ns.all id))) : Cl X (.builtin "all") [.lst (ns.map .bl)] P := cl_of (cr_all hb.calm) fun B H vs le m Q q => by
  cases m with
  | cons m1 m2 =>
    cases m2
    cases m1 with
    | lst h1 h2 =>
      have e := dq_bls h2
      subst e
      exact ⟨_, ns, rfl, .inl (le.rd h1), q _ _ B H Gr.rfl' le p (.bl _)⟩
theorem i_abs {i : Int} (p : P (.int (if i < 0 then -i else i))) : Cl X (.builtin "abs") [.int i] P := cl_of call_abs fun B H vs le m Q q => by
  cases m with
  | cons m1 m2 =>
    cases m2
    cases m1
    exact ⟨i, rfl, q _ _ B H Gr.rfl' le p (.int _)⟩
theorem i_max2 (hb : Bc W X bx) {i j : Int} (p : P (.int (if j > i then j else i))) : Cl X (.builtin "max") [.int i, .int j] P := cl_of (call_max2 hb.calm) fun B H vs le m Q q => by
  cases m with
  | cons m1 m2 =>
    cases m2 with
    | cons m2 m3 =>
      cases m3
      cases m1
      cases m2
      exact ⟨i, j, rfl, q _ _ B H Gr.rfl' le p (.int _)⟩
theorem i_min2 (hb : Bc W X bx) {i j : Int} (p : P (.int (if j < i then j else i))) : Cl X (.builtin "min") [.int i, .int j] P := cl_of (call_min2 hb.calm) fun B H vs le m Q q => by
  cases m with
  | cons m1 m2 =>
    cases m2 with
    | cons m2 m3 =>
      cases m3
      cases m1
      cases m2
      exact ⟨i, j, rfl, q _ _ B H Gr.rfl' le p (.int _)⟩
theorem i_int {i : Int} (p : P (.int i)) : Cl X (.type "int") [.int i] P := cl_of call_int1 fun B H vs le m Q q => by
  cases m with
  | cons m1 m2 =>
    cases m2
    cases m1
    exact .inl ⟨i, rfl, q _ _ B H Gr.rfl' le p (.int _)⟩
theorem l_tuple {ds : List D} (p : P (.tup ds)) : Cl X (.type "tuple") [.lst ds] P := cl_of call_tuple_of fun B H vs le m Q q => by
  cases m with
  | cons m1 m2 =>
    cases m2
    cases m1 with
    | lst h1 h2 => exact ⟨_, _, rfl, .inl ⟨.inl (le.rd h1), fun l n => q _ _ _ _ (Gr.newB le n) (le.newB n) p (Dq.newTup le n h2)⟩⟩
theorem t_tuple {ds : List D} (p : P (.tup ds)) : Cl X (.type "tuple") [.tup ds] P := cl_of call_tuple_of fun B H vs le m Q q => by
  cases m with
  | cons m1 m2 =>
    cases m2
    cases m1 with
    | tup h1 h2 => exact ⟨_, _, rfl, .inr ⟨le.sqT h1, q _ _ B H Gr.rfl' le p (.tup h1 h2)⟩⟩
theorem l_list {ds : List D} (p : P (.lst ds)) : Cl X (.type "list") [.lst ds] P := cl_of call_list_of fun B H vs le m Q q => by
  cases m with
  | cons m1 m2 =>
    cases m2
    cases m1 with
    | lst h1 h2 => exact ⟨_, _, rfl, .inl (.inl (le.rd h1)), fun l n => q _ _ _ _ (Gr.newB le n) (le.newB n) p (Dq.newLst le n h2)⟩
/-- sorted(xs), ints -/
theorem l_sortI {ns : List Int} (p : ∀ ns' : List Int, ns'.Perm ns → ns'.Pairwise (· ≤ ·) → P (.lst (ns'.map .int))) : Cl X (.builtin "sorted") [.lst (ns.map .int)] P := cl_of cr_sortedI fun B H vs le m Q q => by
  cases m with
  | cons m1 m2 =>
    cases m2
    cases m1 with
    | lst h1 h2 =>
      have e := dq_ints h2
      subst e
      exact ⟨_, ns, rfl, .inl (le.rd h1), fun ns' a k1 k2 n => q _ _ _ _ (Gr.newB le n) (le.newB n) (p ns' k1 k2) (Dq.newLst le n ints_dq)⟩
/-- {} -/
theorem po_dnew (r : R (O.dc [])) : PO X (.Dict [] [] pos) Γ R := fun en σ B H rp Q q => ⟨_, pe_dnewK, fun p n => q _ _ [p] B _ (.of rp (Gr.new n) (rp.le.new n)) r (.dic (none_of_le rp.le n) upd_same .nil (by simp)) fun b hb => by
  have e : b = p := by simpa using hb
  subst e
  exact n⟩
end
end Dn

/-! Dn10: short words. -/
namespace Dn
open PySem PySem.Spec L2 RZ
def ixOf (N : List Str) (x : Str) : Nat := match N with
  | [] => 0
  | y :: r => if y = x then 0 else ixOf r x + 1
section
variable {W : Wd} {X : Cx} {bx : Bx} {Γ : List Slot} {a b c e ix : Expr} {pos : Pos} {R : O → Prop} {P : D → Prop} {T : Bool → Prop} {K : PySem.W.Frag} {B H : Hp}
/-- a name that stands for data; h: rfl -/
theorem pp_nm (hb : Bc W X bx) {d : D} {x : Str} (h : Γ[ixOf bx.N x]? = some (.v d)) (p : P d) (hN : bx.N[ixOf bx.N x]? = some x := by rfl)
    (hv : Vis bx.sc x := by first | exact Or.inl rfl | exact Or.inr (Or.inl rfl) | exact Or.inr (Or.inr rfl))
    (hd : (x == ("__debug__" : Str)) = false := by decide) (hcd : (x == ("__classdict__" : Str)) = false := by decide) : PP X (.Name x pos) Γ P := pp_var hb _ h p hN hv hd hcd
theorem pr_nm (hb : Bc W X bx) {o : O} {x : Str} (h : Γ[ixOf bx.N x]? = some (.own o)) (p : R o) (hN : bx.N[ixOf bx.N x]? = some x := by rfl)
    (hv : Vis bx.sc x := by first | exact Or.inl rfl | exact Or.inr (Or.inl rfl) | exact Or.inr (Or.inr rfl))
    (hd : (x == ("__debug__" : Str)) = false := by decide) (hcd : (x == ("__classdict__" : Str)) = false := by decide) : PR X (.Name x pos) Γ R := pr_var hb _ h p hN hv hd hcd
theorem tD {p : Prop} [Decidable p] (h1 : p → T true) (h2 : ¬ p → T false) : T (decide p) := by
  by_cases h : p
  · rw [decide_eq_true h]
    exact h1 h
  · rw [decide_eq_false h]
    exact h2 h
theorem tN {p : Prop} [Decidable p] (h1 : p → T false) (h2 : ¬ p → T true) : T (!decide p) := by
  by_cases h : p
  · rw [decide_eq_true h]
    exact h1 h
  · rw [decide_eq_false h]
    exact h2 h
theorem tB {k : Bool} (h1 : k = true → T true) (h2 : k = false → T false) : T k := by
  cases k with
  | true => exact h1 rfl
  | false => exact h2 rfl
theorem iD {p A C : Prop} [Decidable p] (h1 : p → A) (h2 : ¬ p → C) : if decide p = true then A else C := tD (T := fun k => if k = true then A else C) (fun h => by rw [if_pos rfl]; exact h1 h) fun h => by rw [if_neg Bool.false_ne_true]; exact h2 h
theorem iN {p A C : Prop} [Decidable p] (h1 : ¬ p → A) (h2 : p → C) : if (!decide p) = true then A else C := tN (T := fun k => if k = true then A else C) (fun h => by rw [if_neg Bool.false_ne_true]; exact h2 h) fun h => by rw [if_pos rfl]; exact h1 h
theorem iB {k : Bool} {A C : Prop} (h1 : k = true → A) (h2 : k = false → C) : if k = true then A else C := tB (T := fun k => if k = true then A else C) (fun h => by rw [if_pos rfl]; exact h1 h) fun h => by rw [if_neg Bool.false_ne_true]; exact h2 h
theorem iY {p A C : Prop} [Decidable p] (h : p) (a : A) : if decide p = true then A else C := iD (fun _ => a) fun n => absurd h n
theorem iNo {p A C : Prop} [Decidable p] (h : ¬ p) (c : C) : if decide p = true then A else C := iD (fun y => absurd y h) fun _ => c
theorem iTT {A C : Prop} (a : A) : if true = true then A else C := by rw [if_pos rfl]; exact a
theorem iFF {A C : Prop} (c : C) : if false = true then A else C := by rw [if_neg Bool.false_ne_true]; exact c
theorem ws_retP {E : En} (h : PP X e Γ fun d => E.rt (.val d)) : WS X (.Return (some e) pos) Γ E := ws_ret (PP.po h)
/-- a comprehension whose list is read as data -/
def LpOk (W : Wd) (bx : Bx) (scope : Scope) (tg : Expr) (ifs : List Expr) (elt : Expr) (Γ : List Slot) (vs : List Nat) (P : D → Prop) (ds : List D) : Prop := LcOk W bx scope tg ifs elt Γ vs (fun o => P o.toD) ds
theorem pp_lc {tg iter elt : Expr} {ifs : List Expr} {scope : Scope} (hb : Bc W X bx) (hc : W.calm) (own : List (Str × Nat)) (h : PIt X tg iter Γ (LpOk W bx scope tg ifs elt Γ (own.map (·.2)) P)) (hk : blkC bx.N bx.sc scope own = true := by first | (dsimp only; decide +kernel) | decide +kernel | rfl)
    (hs : ∀ x, foldedSetIterable iter X.env x = pure x := by intro _; rfl) : PP X (.ListComp elt [⟨tg, iter, ifs, 0⟩] scope pos) Γ P := PO.pp (po_lc hb hc own h hk hs)
/-- a name in a comparison, a value among comparisons -/
theorem rd_nm (hb : Bc W X bx) {d : D} {x : Str} (h : Γ[ixOf bx.N x]? = some (.v d)) (p : R (.val d)) (hN : bx.N[ixOf bx.N x]? = some x := by rfl)
    (hv : Vis bx.sc x := by first | exact Or.inl rfl | exact Or.inr (Or.inl rfl) | exact Or.inr (Or.inr rfl))
    (hd : (x == ("__debug__" : Str)) = false := by decide) (hcd : (x == ("__classdict__" : Str)) = false := by decide) : PR X (.Name x pos) Γ R := (pp_nm (P := fun d => R (.val d)) hb h p hN hv hd hcd).pr
theorem rd_int {i : Int} {j} (p : R (.val (.int i))) : PR X (.Constant (.int i) j pos) Γ R := PP.pr (pp_int p)
theorem rd_str {i : Str} {j} (p : R (.val (.str i))) : PR X (.Constant (.str i) j pos) Γ R := PP.pr (pp_str p)
theorem rd_non {j} (p : R (.val .non)) : PR X (.Constant .none j pos) Γ R := PP.pr (pp_non p)
theorem pl1 {L : List D → Prop} (h : PP X e Γ fun d => L [d]) (hs : starEach [e] X.env = (false, eval e X.env) :: starEach [] X.env := by rfl) : PL X [e] Γ L := pl_cons (h.imp fun d p => pl_nil p) hs
theorem pl2 {L : List D → Prop} (h : PP X a Γ fun d => PP X b Γ fun d2 => L [d, d2]) (hs : starEach [a, b] X.env = (false, eval a X.env) :: starEach [b] X.env := by rfl) (hs2 : starEach [b] X.env = (false, eval b X.env) :: starEach [] X.env := by rfl) : PL X [a, b] Γ L :=
  pl_cons (h.imp fun d p => pl_cons (p.imp fun d2 q => pl_nil q) hs2) hs
theorem pl3 {L : List D → Prop} (h : PP X a Γ fun d => PP X b Γ fun d2 => PP X c Γ fun d3 => L [d, d2, d3]) (hs : starEach [a, b, c] X.env = (false, eval a X.env) :: starEach [b, c] X.env := by rfl) (hs2 : starEach [b, c] X.env = (false, eval b X.env) :: starEach [c] X.env := by rfl)
    (hs3 : starEach [c] X.env = (false, eval c X.env) :: starEach [] X.env := by rfl) : PL X [a, b, c] Γ L :=
  pl_cons (h.imp fun d p => pl_cons (p.imp fun d2 q => pl_cons (q.imp fun d3 z => pl_nil z) hs3) hs2) hs
theorem pl4 {L : List D → Prop} {e4 : Expr} (h : PP X a Γ fun d => PP X b Γ fun d2 => PP X c Γ fun d3 => PP X e4 Γ fun d4 => L [d, d2, d3, d4]) (hs : starEach [a, b, c, e4] X.env = (false, eval a X.env) :: starEach [b, c, e4] X.env := by rfl) (hs2 : starEach [b, c, e4] X.env = (false, eval b X.env) :: starEach [c, e4] X.env := by rfl)
    (hs3 : starEach [c, e4] X.env = (false, eval c X.env) :: starEach [e4] X.env := by rfl) (hs4 : starEach [e4] X.env = (false, eval e4 X.env) :: starEach [] X.env := by rfl) : PL X [a, b, c, e4] Γ L :=
  pl_cons (h.imp fun d p => pl_cons (p.imp fun d2 q => pl_cons (q.imp fun d3 z => pl_cons (z.imp fun d4 y => pl_nil y) hs4) hs3) hs2) hs
/-- a list of data by one item each -/
theorem lc_map {scope : Scope} {tg elt : Expr} {vs : List Nat} {ds : List D} (F : D → D) (hz : ds.length ≤ sizeLine) (h : R (O.ls (ds.map F)))
    (hx : ∀ d ∈ ds, ∃ Γ2, (∀ X', Bc W X' (bx.blk scope) → PGd X' tg d (wipeG Γ vs) (· ∈ vs) fun z => z = Γ2) ∧ ∀ X', Bc W X' (bx.blk scope) → PP X' elt Γ2 fun o => o = F d) : LcOk W bx scope tg [] elt Γ vs R ds := by
  refine ⟨hz, fun i acc => acc = (ds.take i).map fun d => O.val (F d), by simp, fun acc e => ?_, fun i d acc hd e hl => ?_⟩
  · subst e
    simpa [O.ls, List.map_map, Function.comp_def] using h
  · obtain ⟨Γ2, h1, h2⟩ := hx d (List.mem_of_getElem? hd)
    refine ⟨Γ2, h1, fun k => k = true, fun X' hb => pts_no rfl, fun z => (by cases z), fun _ X' hb => ((h2 X' hb).imp fun o eo => ?_).po⟩
    subst e eo
    rw [List.take_succ, hd]
    simp
/-- .. with a test -/
theorem lc_filter {scope : Scope} {tg elt tst : Expr} {vs : List Nat} {ds : List D} (p : D → Bool) (F : D → D) (hz : ds.length ≤ sizeLine) (h : R (O.ls ((ds.filter p).map F)))
    (hx : ∀ d ∈ ds, ∃ Γ2, (∀ X', Bc W X' (bx.blk scope) → PGd X' tg d (wipeG Γ vs) (· ∈ vs) fun z => z = Γ2) ∧ (∀ X', Bc W X' (bx.blk scope) → PB X' tst Γ2 fun k => k = p d) ∧ (p d = true → ∀ X', Bc W X' (bx.blk scope) → PP X' elt Γ2 fun o => o = F d)) : LcOk W bx scope tg [tst] elt Γ vs R ds := by
  refine ⟨hz, fun i acc => acc = ((ds.take i).filter p).map fun d => O.val (F d), by simp, fun acc e => ?_, fun i d acc hd e hl => ?_⟩
  · subst e
    simpa [O.ls, List.map_map, Function.comp_def] using h
  · obtain ⟨Γ2, h1, h2, h3⟩ := hx d (List.mem_of_getElem? hd)
    have tk : ds.take (i + 1) = ds.take i ++ [d] := by rw [List.take_succ, hd]; rfl
    refine ⟨Γ2, h1, fun k => k = p d, fun X' hb => pts_1 (h2 X' hb), fun z => ?_, fun z X' hb => ((h3 z.symm X' hb).imp fun o eo => ?_).po⟩
    · have e' : acc = ((ds.take i).filter p).map fun d => O.val (F d) := e
      have z' : false = p d := z
      show acc = ((ds.take (i + 1)).filter p).map fun d => O.val (F d)
      rw [e', tk, List.filter_append]
      simp [← z']
    · have e' : acc = ((ds.take i).filter p).map fun d => O.val (F d) := e
      have z' : true = p d := z
      subst eo
      show acc ++ _ = ((ds.take (i + 1)).filter p).map fun d => O.val (F d)
      rw [e', tk, List.filter_append]
      simp [← z']
theorem lc_mapB {β : Type} {scope : Scope} {tg elt : Expr} {vs : List Nat} (enc : β → D) (F : β → D) {bs : List β} (hz : bs.length ≤ sizeLine) (h : R (O.ls (bs.map F)))
    (hx : ∀ d ∈ bs, ∃ Γ2, (∀ X', Bc W X' (bx.blk scope) → PGd X' tg (enc d) (wipeG Γ vs) (· ∈ vs) fun z => z = Γ2) ∧ ∀ X', Bc W X' (bx.blk scope) → PP X' elt Γ2 fun o => o = F d) : LcOk W bx scope tg [] elt Γ vs R (bs.map enc) := by
  refine ⟨by simpa using hz, fun i acc => acc = (bs.take i).map fun d => O.val (F d), by simp, fun acc e => ?_, fun i d acc hd e hl => ?_⟩
  · subst e
    simpa [O.ls, List.map_map, Function.comp_def] using h
  · rw [List.getElem?_map] at hd
    cases q : bs[i]? with
    | none => rw [q] at hd; cases hd
    | some b =>
      rw [q] at hd
      cases hd
      obtain ⟨Γ2, h1, h2⟩ := hx b (List.mem_of_getElem? q)
      refine ⟨Γ2, h1, fun k => k = true, fun X' hb => pts_no rfl, fun z => (by cases z), fun _ X' hb => ((h2 X' hb).imp fun o eo => ?_).po⟩
      subst e eo
      rw [List.take_succ, q]
      simp
theorem lc_filterB {β : Type} {scope : Scope} {tg elt tst : Expr} {vs : List Nat} (enc : β → D) (p : β → Bool) (F : β → D) {bs : List β} (hz : bs.length ≤ sizeLine) (h : R (O.ls ((bs.filter p).map F)))
    (hx : ∀ d ∈ bs, ∃ Γ2, (∀ X', Bc W X' (bx.blk scope) → PGd X' tg (enc d) (wipeG Γ vs) (· ∈ vs) fun z => z = Γ2) ∧ (∀ X', Bc W X' (bx.blk scope) → PB X' tst Γ2 fun k => k = p d) ∧ (p d = true → ∀ X', Bc W X' (bx.blk scope) → PP X' elt Γ2 fun o => o = F d)) : LcOk W bx scope tg [tst] elt Γ vs R (bs.map enc) := by
  refine ⟨by simpa using hz, fun i acc => acc = ((bs.take i).filter p).map fun d => O.val (F d), by simp, fun acc e => ?_, fun i d acc hd e hl => ?_⟩
  · subst e
    simpa [O.ls, List.map_map, Function.comp_def] using h
  · rw [List.getElem?_map] at hd
    cases q : bs[i]? with
    | none => rw [q] at hd; cases hd
    | some b =>
      rw [q] at hd
      cases hd
      obtain ⟨Γ2, h1, h2, h3⟩ := hx b (List.mem_of_getElem? q)
      have tk : bs.take (i + 1) = bs.take i ++ [b] := by rw [List.take_succ, q]; rfl
      have e' : acc = ((bs.take i).filter p).map fun d => O.val (F d) := e
      refine ⟨Γ2, h1, fun k => k = p b, fun X' hb => pts_1 (h2 X' hb), fun z => ?_, fun z X' hb => ((h3 z.symm X' hb).imp fun o eo => ?_).po⟩
      · have z' : false = p b := z
        show acc = ((bs.take (i + 1)).filter p).map fun d => O.val (F d)
        rw [e', tk, List.filter_append]
        simp [← z']
      · have z' : true = p b := z
        subst eo
        show acc ++ _ = ((bs.take (i + 1)).filter p).map fun d => O.val (F d)
        rw [e', tk, List.filter_append]
        simp [← z']
/-- .. read as data -/
theorem lp_mapB {β : Type} {scope : Scope} {tg elt : Expr} {vs : List Nat} (enc : β → D) (F : β → D) {bs : List β} (hz : bs.length ≤ sizeLine) (h : P (.lst (bs.map F)))
    (hx : ∀ d ∈ bs, ∃ Γ2, (∀ X', Bc W X' (bx.blk scope) → PGd X' tg (enc d) (wipeG Γ vs) (· ∈ vs) fun z => z = Γ2) ∧ ∀ X', Bc W X' (bx.blk scope) → PP X' elt Γ2 fun o => o = F d) : LpOk W bx scope tg [] elt Γ vs P (bs.map enc) :=
  lc_mapB enc F hz (by rw [toD_ls]; exact h) hx
theorem lp_filterB {β : Type} {scope : Scope} {tg elt tst : Expr} {vs : List Nat} (enc : β → D) (p : β → Bool) (F : β → D) {bs : List β} (hz : bs.length ≤ sizeLine) (h : P (.lst ((bs.filter p).map F)))
    (hx : ∀ d ∈ bs, ∃ Γ2, (∀ X', Bc W X' (bx.blk scope) → PGd X' tg (enc d) (wipeG Γ vs) (· ∈ vs) fun z => z = Γ2) ∧ (∀ X', Bc W X' (bx.blk scope) → PB X' tst Γ2 fun k => k = p d) ∧ (p d = true → ∀ X', Bc W X' (bx.blk scope) → PP X' elt Γ2 fun o => o = F d)) : LpOk W bx scope tg [tst] elt Γ vs P (bs.map enc) :=
  lc_filterB enc p F hz (by rw [toD_ls]; exact h) hx
theorem lp_map {scope : Scope} {tg elt : Expr} {vs : List Nat} {ds : List D} (F : D → D) (hz : ds.length ≤ sizeLine) (h : P (.lst (ds.map F)))
    (hx : ∀ d ∈ ds, ∃ Γ2, (∀ X', Bc W X' (bx.blk scope) → PGd X' tg d (wipeG Γ vs) (· ∈ vs) fun z => z = Γ2) ∧ ∀ X', Bc W X' (bx.blk scope) → PP X' elt Γ2 fun o => o = F d) : LpOk W bx scope tg [] elt Γ vs P ds :=
  lc_map F hz (by rw [toD_ls]; exact h) hx
theorem cut1 {d : D} {ds : List D} : cutD (d :: ds) (some 1) none = ds := by
  unfold cutD HT.sIx
  simp
  try omega
theorem cutTo (ds : List D) (n : Nat) : cutD ds none (some (n : Int)) = ds.take n := by
  unfold cutD
  rw [HT.sIx_none, HT.sIx_nat]
  simp
theorem mem_str {x : Str} {vs : List Nat} {j : Nat} (h : vs.contains j = true := by rfl) : j ∈ vs := by simpa using h
end
end Dn

/-! Dn11: sorted, max with default, isinstance, copies of dicts, their keys, == of dicts, repr. -/
namespace Dn
open PySem PySem.Spec L2 RZ PySem.W

section
variable {X : Cx}
theorem each_back {α : Type} {G : V → α → Prop} : ∀ {us : List Value} {bs : List α}, EachIs (fun u b => ∃ v, RelV v u ∧ G v b) us bs → ∃ vs, Vals vs us ∧ EachIs G vs bs
  | _, _, .nil => ⟨[], .nil, .nil⟩
  | _, _, .cons ⟨v, r, g⟩ t => by
    obtain ⟨vs, h1, h2⟩ := each_back t
    exact ⟨v :: vs, .cons r h1, .cons g h2⟩
theorem each_to {α : Type} {G : V → α → Prop} : ∀ {vs : List V} {us : List Value} {bs : List α}, Vals vs us → EachIs G vs bs → EachIs (fun u b => ∃ v, RelV v u ∧ G v b) us bs
  | _, _, _, .nil, h => by cases h; exact .nil
  | _, _, _, .cons r t, h => by
    cases h with
    | cons g h => exact .cons ⟨_, r, g⟩ (each_to t h)
theorem each_len {α β : Type} {G : α → β → Prop} : ∀ {vs : List α} {bs : List β}, EachIs G vs bs → vs.length = bs.length
  | _, _, .nil => rfl
  | _, _, .cons _ t => by simp [each_len t]
/-- sorted(xs) of data that can be told apart by <, any number -/
theorem cr_sortedG {β : Type} (enc : β → PyData) (bs : List β) : CallR X (.builtin "sorted") (fun xs H Q => ∃ (a : Addr) (vs : List V) (G : V → β → Prop), xs = [.ref a] ∧ SqL X.K H a vs ∧ EachIs G vs bs ∧ (∀ v b, G v b → Dp X.K H v (enc b)) ∧ AllAlike (bs.map enc) ∧ Sortable (bs.map enc) ∧
    (∀ b ∈ bs, X.A.units + 2 + (enc b).depth < cLine) ∧ ∀ vs' p, EachIs G vs' (bs.mergeSort (dataLe false enc)) → H p = none → Q (.ref p) (upd H p (.lst vs'))) := by
  intro pins s σ H xs us Q I r h
  obtain ⟨a, vs, G, rfl, hs, he, hg, hal, hk, hu, q⟩ := h
  obtain ⟨its, rv, hl, hz⟩ := I.list hs
  obtain ⟨u, rfl, ru⟩ := vals1 r
  cases ru
  have lv := each_len he
  have e1 := each_to rv he
  refine sorted_data hl.isList e1 (e1.mono fun u b ⟨v, rv, g⟩ => Dp.reads I _ _ _ (hg v b g) rv) hal hk (by rw [← lv]; exact hz) hu fun out ho eo => ?_
  obtain ⟨vs', r', e'⟩ := each_back eo
  obtain ⟨ep, hat⟩ := PyProof.Rows.sortedAll_at s.heap its out.toArray
  exact ⟨.ref (s.heap.objs.size + 1), _, I.laid (t' := s.toks) (o := .lst vs') (fun _ _ => PyProof.Rows.sortedAll_old) (Nat.le_succ _) ⟨by rw [r'.length, ho, ← lv]; exact hz, out, ep, r', hat⟩, rfl, q vs' _ e' (I.hok.fresh (Nat.le_succ _))⟩
/-- max(ints, default=0) -/
theorem cr_maxD : CallRK X (.builtin "max") [Str.ofString "default"] (fun xs zs H Q => X.calm = true ∧ X.A.units + 2 < cLine ∧ ∃ a ns d, xs = [.ref a] ∧ zs = [.int d] ∧ SqL X.K H a (ns.map V.int) ∧ (ns = [] → Q (.int d) H) ∧ ∀ n r, ns = n :: r → Q (.int (r.foldl max n)) H) := by
  intro pins s σ H xs zs us ws Q I r rz h
  obtain ⟨hc, hu, a, ns, d, rfl, rfl, hs, q0, q1⟩ := h
  obtain ⟨its, rv, hl, hz⟩ := I.list hs
  obtain ⟨u, rfl, ru⟩ := vals1 r
  cases ru
  obtain ⟨w, rfl, t, rfl⟩ := vals1 rz
  have hall : ∀ (ns : List Int) (its : List Value), Vals (ns.map V.int) its → ReadsAll s.heap its (ns.map PyData.int) [] := by
    intro ns
    induction ns with
    | nil =>
      intro its r
      cases r
      exact .nil
    | cons n ns ih =>
      intro its r
      cases r with
      | cons r1 r2 =>
        obtain ⟨t, rfl⟩ := r1
        exact ReadsAll.cons (as := []) (bs := []) (.int n t) (ih _ r2)
  refine max_list_default (xs := ns.map PyData.int) (as := []) (I.ok.hd hc) hl.isList (by simpa using hall ns its rv) ⟨fun x hx y hy => ?_, fun x hx => ?_⟩ (by rw [depth_ints]; omega) (fun e h' tk k => ?_) (fun y ys i v h' tk bs e hv rd k => ?_)
  · obtain ⟨i, _, rfl⟩ := List.mem_map.mp hx
    obtain ⟨j, _, rfl⟩ := List.mem_map.mp hy
    rfl
  · obtain ⟨i, _, rfl⟩ := List.mem_map.mp hx
    exact fun z => nomatch z
  · exact ⟨.int d, H, I.kept k, ⟨t, rfl⟩, q0 (by simpa using e)⟩
  · cases ns with
    | nil => cases e
    | cons n r =>
      have e' : PyData.int n :: r.map PyData.int = y :: ys := e
      injection e' with e1 e2
      rw [← e1, ← e2, maxD_ints] at rd
      cases rd with
      | int _ t' => exact ⟨.int (r.foldl max n), H, I.kept k, ⟨t', rfl⟩, q1 n r rfl⟩
end

section
variable {W : Wd} {X : Cx} {bx : Bx} {Γ : List Slot} {a b c e ix : Expr} {pos : Pos} {R : O → Prop} {P : D → Prop} {T : Bool → Prop} {K : PySem.W.Frag} {B H : Hp}
theorem each_dq {β : Type} {encD : β → D} : ∀ {vs : List V} {bs : List β}, DqL K B vs (bs.map encD) → EachIs (fun v b => Dq K B v (encD b)) vs bs
  | _, [], h => by cases h; exact .nil
  | _, b :: bs, h => by
    cases h with
    | cons h1 h2 => exact .cons h1 (each_dq h2)
theorem dq_each {β : Type} {encD : β → D} : ∀ {vs : List V} {bs : List β}, EachIs (fun v b => Dq K B v (encD b)) vs bs → DqL K B vs (bs.map encD)
  | _, _, .nil => .nil
  | _, _, .cons h t => .cons h (dq_each t)
theorem l_sortG (hb : Bc W X bx) {β : Type} (encD : β → D) {n : Nat} {bs : List β} (hsh : ∀ b, Sh n (encD b)) (hal : ∀ x y, alike (encD x).py (encD y).py = true) (hk : Sortable (bs.map fun b => (encD b).py)) (p : P (.lst ((bs.mergeSort (dataLe false fun b => (encD b).py)).map encD))) (hn : n ≤ 60 := by decide) : Cl X (.builtin "sorted") [.lst (bs.map encD)] P :=
  cl_of (cr_sortedG (fun b => (encD b).py) bs) fun B H vs le m Q q => by
    cases m with
    | cons m1 m2 =>
      cases m2
      cases m1 with
      | lst h1 h2 =>
        refine ⟨_, _, fun v b => Dq X.K B v (encD b), rfl, .inl (le.rd h1), each_dq h2, fun v b g => (g.up le).dp n _ _ (hsh b), AllAlike.of hal, hk, fun b _ => ?_, fun vs' a e nn => ?_⟩
        · have := (sh_lay n _ (hsh b)).2
          have := hb.room.un
          omega
        · exact q _ _ _ _ (Gr.newB le nn) (le.newB nn) p (Dq.newLst le nn (dq_each e))
/-- pairs of ints -/
def dPr (p : Int × Int) : D := .tup [.int p.1, .int p.2]
def lePr (p q : Int × Int) : Bool := decide (p.1 < q.1 ∨ (p.1 = q.1 ∧ p.2 ≤ q.2))
theorem l_sortP (hb : Bc W X bx) {ps : List (Int × Int)} (p : P (.lst ((ps.mergeSort lePr).map dPr))) : Cl X (.builtin "sorted") [.lst (ps.map dPr)] P := by
  refine l_sortG hb dPr (n := 1) (fun b => ?_) (fun x y => rfl) (Sortable.tuples fun b => ⟨_, _, rfl⟩) ?_
  · intro d hd
    have hd' : d = .int b.1 ∨ d = .int b.2 := by simpa using hd
    rcases hd' with rfl | rfl <;> exact trivial
  · have e : (dataLe false fun b : Int × Int => (dPr b).py) = lePr := dataLe_ii (fun b : Int × Int => b.1) (fun b => b.2)
    rw [e]
    exact p
def mxD (i0 : Int) : List Int → Int
  | [] => i0
  | n :: r => r.foldl max n
/-- max(xs, default=d) -/
theorem pp_maxD (hb : Bc W X bx) {q kp : Pos} {j} {i0 : Int} {p0 : Pos} (h : PP X a Γ fun d => ∃ ns : List Int, d = .lst (ns.map .int) ∧ P (.int (mxD i0 ns))) (hg : bx.sc.names.lookup ("max" : Str) = some .globalImplicit := by rfl) (hm : W.mg "max" = none := by assumption)
    (hs : starEach [a] X.env = (false, eval a X.env) :: starEach [] X.env := by rfl)
    (he : backTo pos (starEach [a] X.env) = (false, eval a X.env) :: backTo pos (starEach [] X.env) := by rfl) (hpl : (backTo pos (starEach [a] X.env)).any (·.1) = false := by rfl)
    (hall : (backToKw pos (keywordEach [⟨some "default", .Constant (.int i0) j p0, kp⟩] X.env)).all (·.1.isSome) = true := by rfl) (hnone : (backToKw pos (keywordEach [⟨some "default", .Constant (.int i0) j p0, kp⟩] X.env)).any (·.1.isNone) = false := by rfl)
    (hks : (backToKw pos (keywordEach [⟨some "default", .Constant (.int i0) j p0, kp⟩] X.env)).filterMap (·.1) = [Str.ofString "default"] := by rfl) :
    PP X (.Call (.Name "max" q) [a] [⟨some "default", .Constant (.int i0) j p0, kp⟩] pos) Γ P := fun en σ B H rp Q qq =>
  ⟨_, pe_callBK cr_maxD (by show X.env.scope.names.lookup _ = _; rw [hb.sco]; exact hg) (by rw [hb.mo]; exact hm) rfl (pa_cons (be X a) pa_nil hs) (pk_cons pe_int pk_nil) (by decide) (by decide) he hpl hall hnone hks, h en σ B H rp _ fun v d B1 H1 g1 ⟨ns, e1, p1⟩ m => by
    subst e1
    cases m with
    | lst h1 h2 =>
      have e := dq_ints h2
      subst e
      refine ⟨hb.calm, by have := hb.room.un; omega, _, ns, i0, rfl, rfl, .inl (g1.le.rd h1), fun z => ?_, fun n r z => ?_⟩
      · subst z
        exact qq _ _ B1 H1 g1 p1 (.int _)
      · subst z
        exact qq _ _ B1 H1 g1 p1 (.int _)⟩
/-- isinstance(x, T) -/
def tyN : D → String
  | .non => "NoneType"
  | .bl _ => "bool"
  | .int _ => "int"
  | .str _ => "str"
  | .tup _ => "tuple"
  | .lst _ => "list"
  | .dic _ => "dict"
  | .scr _ => "list"
theorem ty_of {v : V} {d : D} (le : Le B H) (h : Dq K B v d) : TyX K H v (.type (tyN d)) := by
  cases h with
  | non => exact .base .non
  | bl b => exact .base (.bl b)
  | int i => exact .base (.int i)
  | str x => exact .base (.str x)
  | tup h1 h2 =>
    rcases le.sqT h1 with (z | ⟨o, z⟩) | ⟨o, its, n, z, c, _⟩
    · exact .base (.tup z)
    · exact .fTuple z
    · exact .kTuple z c
  | lst h1 h2 =>
    rcases le.rd h1 with z | ⟨o, z⟩
    · exact .base (.lst z)
    · exact .base (.frz z)
  | dic h1 h2 =>
    rcases le.rd h1 with z | ⟨o, z⟩
    · exact .base (.dK z)
    · exact .fDict z
  | scr h1 =>
    rcases le.sqL h1 with (z | ⟨o, z⟩) | ⟨o, its, n, z, c, _⟩
    · exact .base (.lst z)
    · exact .base (.frz z)
    · exact .kList z c
theorem pp_isi (hb : Bc W X bx) {x : Str} {t : String} {q p0 : Pos} (h : PP X a Γ fun d => ∃ b, kitB (tyN d) t = some b ∧ P (.bl b)) (hv : bootBuiltins x = some (.type t) := by rfl) (hg2 : bx.sc.names.lookup x = some .globalImplicit := by rfl) (hm2 : W.mg x = none := by assumption)
    (hn : x ≠ "__name__" := by decide) (hdb : (x == ("__debug__" : Str)) = false := by decide) (hg : bx.sc.names.lookup ("isinstance" : Str) = some .globalImplicit := by rfl) (hm : W.mg "isinstance" = none := by assumption)
    (hs : starEach [a, .Name x p0] X.env = (false, eval a X.env) :: starEach [.Name x p0] X.env := by rfl) (hs2 : starEach [.Name x p0] X.env = (false, eval (.Name x p0) X.env) :: starEach [] X.env := by rfl)
    (hpl : (backTo pos (starEach [.Name x p0] X.env)).any (·.1) = false := by rfl) : PP X (.Call (.Name "isinstance" q) [a, .Name x p0] [] pos) Γ P := fun en σ B H rp Q qq =>
  ⟨_, pe_callB call_isi (by show X.env.scope.names.lookup _ = _; rw [hb.sco]; exact hg) (by rw [hb.mo]; exact hm) rfl (pa_cons (be X a) (pa_cons (pe_bltn (v := .ty t) (by show X.env.scope.names.lookup _ = _; rw [hb.sco]; exact hg2) (by rw [hb.mo]; exact hm2) hv rfl hn hdb) pa_nil hs2) hs) (by decide) (by decide) hs hpl,
   h en σ B H rp _ fun v d B1 H1 g1 ⟨b, e1, p1⟩ m => ⟨v, .ty t, .type (tyN d), .type t, b, rfl, .ty t, ty_of g1.le m, kit_ty e1, qq _ _ B1 H1 g1 p1 (.bl b)⟩⟩

/-! ### dicts: copies, keys -/
theorem cr_dictK : CallR X (.type "dict") (fun xs H Q => ∃ a kvs, xs = [.ref a] ∧ Rd H a (.dK kvs) ∧ ∀ p, H p = none → Q (.ref p) (upd H p (.dK kvs))) := by
  intro pins s σ H xs us Q I r h
  obtain ⟨a, kvs, rfl, hr, q⟩ := h
  obtain ⟨u, rfl, ru⟩ := vals1 r
  cases ru
  exact d_copyOf I hr fun p s' n I' => ⟨.ref p, _, I', rfl, q p n⟩
/-- dict(d): a dict of its own -/
theorem po_dcopy (hb : Bc W X bx) {q : Pos} (h : PP X a Γ fun d => ∃ kvs, d = .dic kvs ∧ R (O.dc kvs)) (hg : bx.sc.names.lookup ("dict" : Str) = some .globalImplicit := by rfl) (hm : W.mg "dict" = none := by assumption)
    (hs : starEach [a] X.env = (false, eval a X.env) :: starEach [] X.env := by rfl) (hpl : (backTo pos (starEach [] X.env)).any (·.1) = false := by rfl) : PO X (.Call (.Name "dict" q) [a] [] pos) Γ R := fun en σ B H rp Q qq =>
  ⟨_, pe_callTy cr_dictK (by show X.env.scope.names.lookup _ = _; rw [hb.sco]; exact hg) (by rw [hb.mo]; exact hm) rfl (pa_cons (be X a) pa_nil hs) (by decide) (by decide) hs hpl, h en σ B H rp _ fun v d B1 H1 g1 ⟨kvs, e1, p1⟩ m => by
    subst e1
    cases m with
    | dic h1 h2 =>
      refine ⟨_, _, rfl, g1.le.rd h1, fun p n => qq _ (O.dc kvs) [p] B1 _ (g1.tr (.of (g1.rp rp) (Gr.new n) (g1.le.new n))) p1 (.dic (none_of_le g1.le n) upd_same (ORM.vals h2) (by simp)) fun b hb' => ?_⟩
      have e : b = p := by simpa using hb'
      subst e
      cases z : H b with
      | none => rfl
      | some u => exact absurd n (g1.gr.p b (by rw [z]; simp))⟩
end
end Dn

/-! Dn12: dict comprehensions as statements, as values; ints sorted. -/
namespace Dn
open PySem PySem.Spec L2 RZ PySem.W

section
variable {X : Cx}
theorem setDc_ps {i : Nat} {y : Str} {py : Pos} {kx vx tg iter : Expr} {ifs : List Expr} {scope : Scope} {own : List (Str × Nat)} {cpos spos : Pos} {wi : TI} {g : TG} {tt : TT} {tk tv : TE} (cm : X.calm = true) (nd : X.N.Nodup) (hi : X.N[i]? = some y) (hl : X.env.scope.names.lookup y = some .local)
    (sw : swapsWith (.DictComp kx vx [⟨tg, iter, ifs, 0⟩] scope cpos) (some (.Name y py)) spos.line X.env = pure true) (it : PI X tg iter wi) (ok : BlkOk X.N X.env.scope scope own)
    (hg : ∀ s H C cl fp, PG (blks X scope s H C cl fp) tg g) (ht : ∀ s H C cl fp, PTs (blks X scope s H C cl fp) ifs tt) (hk : ∀ s H C cl fp, PE (blks X scope s H C cl fp) kx tk) (hv : ∀ s H C cl fp, PE (blks X scope s H C cl fp) vx tv)
    (fold : ∀ x, foldedSetIterable iter X.env x = pure x) : PS X (.Assign [.Name y py] (.DictComp kx vx [⟨tg, iter, ifs, 0⟩] scope cpos) spos) (tAsg (tDc wi g tt tk tv (own.map (·.2))) (gName i)) := by
  refine ⟨fun pins st σ H D I h => ?_⟩
  rw [exec_Assign_Name_used _ _ _ _ sw]
  refine wpAny_bind (wpAny_standAt (wpAny_bind ?_))
  show wpAny _ X.A (do let _ ← comprehension (.DictComp kx vx [⟨tg, iter, ifs, 0⟩] scope cpos) scope X.env (firstIterPos [⟨tg, iter, ifs, 0⟩] cpos) newDict false (eval iter X.env) (some (assign (.Name y py) X.env))) _ _ st
  have hh : tDc wi g tt tk tv (own.map (·.2)) σ H (fun x H1 => gName i x σ H1 D.nx) := h
  refine wpAny_bind (thn (dc_core (Qf := fun _ s2 => SP X pins D .next s2) cm nd I it ok hg ht hk hv fold hh fun L C s2 m H2 I2 q hn f => ?_) fun _ s2 hq => wpAny_pure (wpAny_pure hq))
  show wpAny _ _ (assign (.Name y py) X.env (.ref L)) _ _ _
  refine wpAny_assign_Name (store_ok2 (v := V.ref L) I2 nd hi (.inl hl) rfl (fun s3 I3 ⟨a, sb, ha⟩ => ?_) (.inr hl))
  obtain ⟨f0, f1, f2, f3, f4, f5⟩ := f
  have ne : C ≠ a := by
    rcases ha with z | z
    · rw [z]; exact f1
    · exact fun e => f4 y a z e.symm
  exact ⟨m, hn.sameBut sb ne, fun h4 sb4 => ⟨_, H2, I3.turned (t' := s3.toks) (fun b o hb e => (sb4.2 b hb).trans e) f0 f1 f3 f4 f5, q⟩⟩
end
section
variable {W : Wd} {X : Cx} {bx : Bx} {Γ : List Slot} {tg a b c e iter kx vx : Expr} {ifs : List Expr} {pos : Pos} {R : O → Prop} {P : D → Prop} {scope : Scope} {E : En}
theorem ws_setDc {C : Ent → St → Hp → Prop} {cpos p : Pos} (hb : Bc W X bx) (hc : W.calm) (own : List (Str × Nat)) (i : Nat) {x : Str} (h : PItC X C tg iter Γ (DcOk W bx scope tg ifs kx vx Γ (own.map (·.2)) fun o => E.nx (Γ.set i (.own o))))
    (hk : blkC bx.N bx.sc scope own = true := by first | (dsimp only; decide +kernel) | decide +kernel | rfl) (hN : bx.N[i]? = some x := by rfl) (hx : bx.sc.names.lookup x = some .local := by rfl)
    (hsw : swapsWith (.DictComp kx vx [⟨tg, iter, ifs, 0⟩] scope cpos) (some (.Name x p)) pos.line { X.env with scope := bx.sc } = pure true := by rfl) (hs : ∀ x, foldedSetIterable iter X.env x = pure x := by intro _; rfl) :
    WSC X C (.Assign [.Name x p] (.DictComp kx vx [⟨tg, iter, ifs, 0⟩] scope cpos) pos) Γ E := fun en σ B H D rp hC eo =>
  ⟨_, setDc_ps hb.calm (by rw [hb.nn]; exact hb.nd) (by rw [hb.nn]; exact hN) (by rw [hb.sco]; exact hx) (by rw [swaps_scope (env' := { X.env with scope := bx.sc }) hb.sco]; exact hsw) (bi X tg iter) (by rw [hb.nn, hb.sco]; exact blkOk_by hk)
    (fun s H0 C cl fp => ⟨fun pins s' σ' H' v u Q' I r z => (bg _ tg).run pins s' σ' H' v u Q' I r (z s H0 C cl fp)⟩)
    (fun s H0 C cl fp => ⟨fun pins s' σ' H' Q' I z => by
      obtain ⟨t, h1, h2⟩ := z s H0 C cl fp
      exact h1.run pins s' σ' H' Q' I h2⟩)
    (fun s H0 C cl fp => ⟨fun pins s' σ' H' Q' I z => (be _ kx).run pins s' σ' H' Q' I (z s H0 C cl fp)⟩)
    (fun s H0 C cl fp => ⟨fun pins s' σ' H' Q' I z => (be _ vx).run pins s' σ' H' Q' I (z s H0 C cl fp)⟩) hs,
   dc_go hb hc rp (h en σ B H rp hC) fun v o f B' H' g q m n => eo.nx B' H' _ _ g.gr.b (rp.growSet g.gr g.le g.bw i m n) q⟩
theorem po_dc (hb : Bc W X bx) (hc : W.calm) (own : List (Str × Nat)) (h : PIt X tg iter Γ (DcOk W bx scope tg ifs kx vx Γ (own.map (·.2)) R)) (hk : blkC bx.N bx.sc scope own = true := by first | (dsimp only; decide +kernel) | decide +kernel | rfl)
    (hs : ∀ x, foldedSetIterable iter X.env x = pure x := by intro _; rfl) : PO X (.DictComp kx vx [⟨tg, iter, ifs, 0⟩] scope pos) Γ R := fun en σ B H rp Q q =>
  ⟨_, pe_dc hb.calm (by rw [hb.nn]; exact hb.nd) (bi X tg iter) (by rw [hb.nn, hb.sco]; exact blkOk_by hk)
    (fun s H0 C cl fp => ⟨fun pins s' σ' H' v u Q' I r z => (bg _ tg).run pins s' σ' H' v u Q' I r (z s H0 C cl fp)⟩)
    (fun s H0 C cl fp => ⟨fun pins s' σ' H' Q' I z => by
      obtain ⟨t, h1, h2⟩ := z s H0 C cl fp
      exact h1.run pins s' σ' H' Q' I h2⟩)
    (fun s H0 C cl fp => ⟨fun pins s' σ' H' Q' I z => (be _ kx).run pins s' σ' H' Q' I (z s H0 C cl fp)⟩)
    (fun s H0 C cl fp => ⟨fun pins s' σ' H' Q' I z => (be _ vx).run pins s' σ' H' Q' I (z s H0 C cl fp)⟩) hs,
   dc_go hb hc rp (h en σ B H rp) q⟩
/-- [.. for .. in d.items() ..], read as data -/
theorem pp_lcI (hb : Bc W X bx) (hc : W.calm) (own : List (Str × Nat)) (i : Nat) {elt : Expr} {ds : List (Key × D)} (hΓ : Γ[i]? = some (.v (.dic ds))) (h : PItC X (LkAt X.K i ds) tg iter Γ (LpOk W bx scope tg ifs elt Γ (own.map (·.2)) P)) (hk : blkC bx.N bx.sc scope own = true := by first | (dsimp only; decide +kernel) | decide +kernel | rfl)
    (hs : ∀ x, foldedSetIterable iter X.env x = pure x := by intro _; rfl) : PP X (.ListComp elt [⟨tg, iter, ifs, 0⟩] scope pos) Γ P := PO.pp (po_lock i hΓ (poc_lc hb hc own h hk hs))
def leI (i j : Int) : Bool := decide (i ≤ j)
theorem l_sortJ (hb : Bc W X bx) {ns : List Int} (p : P (.lst ((ns.mergeSort leI).map .int))) : Cl X (.builtin "sorted") [.lst (ns.map .int)] P := by
  refine l_sortG hb D.int (n := 0) (fun b => trivial) (fun x y => rfl) (Sortable.others fun b => ⟨(fun z => nomatch z), (fun _ z => nomatch z)⟩) ?_
  have e : (dataLe false fun b : Int => (D.int b).py) = leI := dataLe_int (fun b : Int => b)
  rw [e]
  exact p
end
end Dn
namespace Dn
open PySem PySem.Spec L2 RZ PySem.W
section
variable {W : Wd} {X : Cx} {bx : Bx} {Γ : List Slot} {a b c e : Expr} {pos : Pos} {R : O → Prop} {P : D → Prop} {T : Bool → Prop}
/-- t[i], t a name of a tuple -/
theorem pp_nt (hb : Bc W X bx) {xs : List D} {d : D} {i : Int} {x : Str} {p p2 : Pos} {j} (h : Γ[ixOf bx.N x]? = some (.v (.tup xs))) (hi : atI xs i = some d) (q : P d) (hN : bx.N[ixOf bx.N x]? = some x := by rfl)
    (hv : Vis bx.sc x := by first | exact Or.inl rfl | exact Or.inr (Or.inl rfl) | exact Or.inr (Or.inr rfl))
    (hd : (x == ("__debug__" : Str)) = false := by decide) (hcd : (x == ("__classdict__" : Str)) = false := by decide) : PP X (.Subscript (.Name x p) (.Constant (.int i) j p2) pos) Γ P :=
  pp_ix (pp_nm hb h (pp_int (ix_tp hi q)) hN hv hd hcd)
theorem pp_nl (hb : Bc W X bx) {xs : List D} {d : D} {i : Int} {x : Str} {p p2 : Pos} {j} (h : Γ[ixOf bx.N x]? = some (.v (.lst xs))) (hi : atI xs i = some d) (q : P d) (hN : bx.N[ixOf bx.N x]? = some x := by rfl)
    (hv : Vis bx.sc x := by first | exact Or.inl rfl | exact Or.inr (Or.inl rfl) | exact Or.inr (Or.inr rfl))
    (hd : (x == ("__debug__" : Str)) = false := by decide) (hcd : (x == ("__classdict__" : Str)) = false := by decide) : PP X (.Subscript (.Name x p) (.Constant (.int i) j p2) pos) Γ P :=
  pp_ix (pp_nm hb h (pp_int (ix_lst hi q)) hN hv hd hcd)
/-- e[i], e a tuple -/
theorem pp_ti {i : Int} {p2 : Pos} {j} (h : PP X a Γ fun d => ∃ xs y, d = .tup xs ∧ atI xs i = some y ∧ P y) : PP X (.Subscript a (.Constant (.int i) j p2) pos) Γ P :=
  pp_ix (h.imp fun d ⟨xs, y, e1, e2, q⟩ => by subst e1; exact pp_int (ix_tp e2 q))
/-- a == "text", a op int -/
theorem pb_eS {y : Str} {p : Pos} {j} (h : PP X a Γ fun d => ∃ x, d = .str x ∧ T (decide (x = y))) : PB X (.Compare a [.Eq] [.Constant (.str y) j p] pos) Γ T :=
  pb_cmp (PP.pr (h.imp fun d ⟨x, e1, t⟩ => by subst e1; exact rd_str (c_eqS t)))
theorem pb_eI (h : PP X a Γ fun d => ∃ x, d = .int x ∧ PP X b Γ fun d => ∃ y, d = .int y ∧ T (decide (x = y))) : PB X (.Compare a [.Eq] [b] pos) Γ T :=
  pb_cmp (PP.pr (h.imp fun d ⟨x, e1, t⟩ => by subst e1; exact PP.pr (t.imp fun d ⟨y, e2, t⟩ => by subst e2; exact c_eqI t)))
theorem pb_nI (h : PP X a Γ fun d => ∃ x, d = .int x ∧ PP X b Γ fun d => ∃ y, d = .int y ∧ T (!decide (x = y))) : PB X (.Compare a [.NotEq] [b] pos) Γ T :=
  pb_cmp (PP.pr (h.imp fun d ⟨x, e1, t⟩ => by subst e1; exact PP.pr (t.imp fun d ⟨y, e2, t⟩ => by subst e2; exact c_neI t)))
theorem pb_gI (h : PP X a Γ fun d => ∃ x, d = .int x ∧ PP X b Γ fun d => ∃ y, d = .int y ∧ T (decide (y < x))) : PB X (.Compare a [.Gt] [b] pos) Γ T :=
  pb_cmp (PP.pr (h.imp fun d ⟨x, e1, t⟩ => by subst e1; exact PP.pr (t.imp fun d ⟨y, e2, t⟩ => by subst e2; exact c_gt t)))
theorem pb_lI (h : PP X a Γ fun d => ∃ x, d = .int x ∧ PP X b Γ fun d => ∃ y, d = .int y ∧ T (decide (x < y))) : PB X (.Compare a [.Lt] [b] pos) Γ T :=
  pb_cmp (PP.pr (h.imp fun d ⟨x, e1, t⟩ => by subst e1; exact PP.pr (t.imp fun d ⟨y, e2, t⟩ => by subst e2; exact c_lt t)))
theorem pb_leI (h : PP X a Γ fun d => ∃ x, d = .int x ∧ PP X b Γ fun d => ∃ y, d = .int y ∧ T (decide (x ≤ y))) : PB X (.Compare a [.LtE] [b] pos) Γ T :=
  pb_cmp (PP.pr (h.imp fun d ⟨x, e1, t⟩ => by subst e1; exact PP.pr (t.imp fun d ⟨y, e2, t⟩ => by subst e2; exact c_le t)))
theorem pb_geI (h : PP X a Γ fun d => ∃ x, d = .int x ∧ PP X b Γ fun d => ∃ y, d = .int y ∧ T (decide (y ≤ x))) : PB X (.Compare a [.GtE] [b] pos) Γ T :=
  pb_cmp (PP.pr (h.imp fun d ⟨x, e1, t⟩ => by subst e1; exact PP.pr (t.imp fun d ⟨y, e2, t⟩ => by subst e2; exact c_ge t)))
end
end Dn

/-! Dn13: enumerate over a tuple. -/
namespace Dn
open PySem PySem.Spec L2 RZ PySem.W

/-- what a fresh iterator is, for enumerate with one argument -/
theorem enumNew1 {v : Value} {ob : Obj} {Hh : Heap → Prop} (Bg : Begins v ob Hh) : Meets (Builtin.«enumerate.__new__» ⟨[.type "enumerate", v], []⟩) (fun _ R s => Hh s.heap ∧
    R (.ok (.ret (.ref (s.heap.push ob).objs.size))) { s with heap := (s.heap.push ob).push { cls := .type "enumerate", data := .fields #[.none, .bool false, .ref s.heap.objs.size, rawInt 0, .none, .none] } }) :=
  .of_wp fun prog w A R s hh => by
    obtain ⟨hp, gn, dr, tk, os⟩ := s
    obtain ⟨h1, hR⟩ := hh
    have hsub := sub_enumerate
    have road : ∀ {A' : Around} {E : Value → Shared → Prop} {Q : Value → Shared → Prop}, Q (.ref hp.objs.size) ⟨hp.push ob, gn, dr, tk, os⟩ → wpAny (model prog w) A' (pyIter v) Q E ⟨hp, gn, dr, tk, os⟩ :=
      fun q => Bg.iter prog w _ _ ⟨hp, gn, dr, tk, os⟩ _ h1 q
    wp_walk using road
    refine wpAny_stack_any fun stk => wpAny_pure ?_
    split
    · rename_i cc _ _ _ _ _
      cases (cc == Value.type "enumerate")
      · wp_walk using road
        exact ⟨_, rfl, hR⟩
      · wp_walk using road
        exact ⟨_, rfl, hR⟩
    · wp_walk using road
      exact ⟨_, rfl, hR⟩
theorem enumCall1 {prog : Program} {w : World} {A : Around} {E : Value → Shared → Prop} {s : Shared} {v : Value} {ob : Obj} {Hh : Heap → Prop} {Q : Value → Shared → Prop} (Bg : Begins v ob Hh) (h1 : Hh s.heap)
    (hq : ∀ h2, IsEnum h2 (s.heap.objs.size + 1) s.heap.objs.size 0 .none → h2.get? s.heap.objs.size = some ob → (∀ b u, s.heap.get? b = some u → h2.get? b = some u) → Q (.ref (s.heap.objs.size + 1)) { s with heap := h2 }) :
    wpAny (model prog w) A (call (.type "enumerate") [v]) Q E s := by
  refine callType_new F.called_enumerate (by decide) (F.typeCall_enumerate_1 _) (F.newCall_enumerate_1 _) (fun o2 => F.args_object_init_2 o2 _) F.entry_enumerate_new (enumNew1 Bg) ⟨h1, ?_⟩
  have size1 : (s.heap.push ob).objs.size = s.heap.objs.size + 1 := Heap.size_push ..
  show _ ∧ _
  rw [size1]
  have isE : IsEnum ((s.heap.push ob).push { cls := .type "enumerate", data := .fields #[.none, .bool false, .ref s.heap.objs.size, rawInt 0, .none, .none] }) (s.heap.objs.size + 1) s.heap.objs.size 0 .none := by
    have z := Heap.get?_push_size (s.heap.push ob) (o := { cls := .type "enumerate", data := .fields #[.none, .bool false, .ref s.heap.objs.size, rawInt 0, .none, .none] }) rfl
    rw [size1] at z
    exact z
  exact ⟨⟨_, isE, rfl⟩, hq _ isE (Heap.get?_push_of_some _ (Heap.get?_push_size _ Bg.free)) fun b u x => Heap.get?_push_of_some _ (Heap.get?_push_of_some _ x)⟩
/-- the tuple at a, each item in a new pair -/
def IteT (K : PySem.W.Frag) (a : Addr) : It :=
  ⟨fun i H => ∃ (xs : List V) (x : V), SqT K H a xs ∧ xs[i]? = some x, fun i H v H' => ∃ T x, v = .ref T ∧ H T = none ∧ H' = upd H T (.tup [.int (i : Nat), x]) ∧ ∀ xs, SqT K H a xs → xs[i]? = some x, fun i H => ∃ xs : List V, SqT K H a xs ∧ xs.length = i⟩
theorem turnEnT {P : Program} {w : World} {K : PySem.W.Frag} {elts : List Expr} {kk : Nat} {tpos : Pos} (a e it : Addr) :
    Turn P w K (.Tuple elts kk tpos) (IteT K a) [e, it] e (fun i h => (∃ old, IsEnum h e it ((i : Nat) : Int) old) ∧ h.IsTupleIter it a i ∧ e ≠ it) where
  mem := by simp
  obj := fun i h st b hb => by
    obtain ⟨⟨old, he⟩, ⟨o, ho, hc, hd⟩, _⟩ := st
    have two : b = e ∨ b = it := by simpa using hb
    rcases two with z | z
    · rw [z]; exact ⟨_, he, fun v q => nomatch q⟩
    · rw [z]; exact ⟨o, ho, fun v q => by rw [hd] at q; cases q⟩
  keep := fun i h h2 st k => let ⟨⟨old, he⟩, hi, hne⟩ := st; ⟨⟨old, k e (by simp) _ he⟩, hi.at fun o q => k it (by simp) o q, hne⟩
  item := by
    intro X hP hw hK hc i pins s σ H E I hf st hg
    subst hP hw hK
    obtain ⟨⟨old, he⟩, hit, hne⟩ := st
    obtain ⟨xs, x, hq, hx⟩ := hg
    obtain ⟨its, rv, p, hz⟩ := I.tuple hq
    obtain ⟨u, hu, ru⟩ := rv.get hx
    have hel : e < s.heap.objs.size := Heap.lt_size he
    have hil : it < s.heap.objs.size := by obtain ⟨_, q, _⟩ := hit; exact Heap.lt_size q
    have nai : a ≠ it := fun z => by
      obtain ⟨o1, h1, h2, _⟩ := hit
      obtain ⟨o2, h3, h4, _⟩ := p
      rw [z, h1] at h3
      cases h3
      rw [h2] at h4
      exact absurd h4 (by decide)
    have nae : e ≠ a := fun z => by
      have h1 := he
      obtain ⟨o2, h3, h4, _⟩ := p
      unfold IsEnum at h1
      rw [z, h3] at h1
      cases h1
      exact absurd (show Value.type "enumerate" = Value.type "tuple" from h4) (by decide)
    have li : i < its.toArray.size := by
      have := (List.getElem?_eq_some_iff.mp hu).1
      simpa using this
    refine wpAny_pyNext_enum_itemD (Draws.tuple (A := X.A.in1) (by exact I.ok.hd hc) it a nai its.toArray) he ⟨hit, p⟩ li hne (by simp; exact ⟨hne, nae⟩) fun u2 h2 tk hP ho hit2 hT hsz hk => ?_
    have eu : u2 = u := by
      have h3 : its.toArray[i]? = some u2 := hP
      simp only [List.getElem?_toArray, hu] at h3
      exact (Option.some.inj h3).symm
    subst eu
    refine ⟨_, rfl, wpAny_letOwnedTupleGo_enum (s := { s with heap := h2, toks := tk + 1 }) ho fun h3 he3 sb => ?_⟩
    have hT3 : h3.get? s.heap.objs.size = some { cls := .type "tuple", data := .seq #[.int i tk, u2] } := (sb.2 _ (Nat.ne_of_gt hel)).trans hT
    have new : ObjOk X.prog X.w (upd H s.heap.objs.size (.tup [.int (i : Nat), x])) h3 s.heap.objs.size (.tup [.int (i : Nat), x]) :=
      ⟨by show 2 ≤ sizeLine; decide, [.int i tk, u2], .cons ⟨_, rfl⟩ (.cons ru .nil), ⟨_, hT3, rfl, _, rfl⟩⟩
    have I1 : Inv X pins σ (upd H s.heap.objs.size (.tup [.int (i : Nat), x])) { s with heap := h3, toks := tk + 1 } :=
      I.turnedNew (ch := [e, it]) (fun b ob hb q => (sb.2 b (fun z => hb (by simp [z]))).trans (hk b ob (fun z => hb (by simp [z])) (fun z => hb (by simp [z])) q)) hf (Nat.le_refl _) new
    refine ⟨.ref s.heap.objs.size, _, I1, rfl, ⟨_, x, rfl, I.hok.fresh (Nat.le_refl _), rfl, fun ys hy => by rw [I.tuple_inj hy hq]; exact hx⟩, ⟨⟨u2, ?_⟩, hit2.1.at fun o q => (sb.2 it (Ne.symm hne)).trans q, hne⟩, fun b hb => ?_⟩
    · rw [show ((i + 1 : Nat) : Int) = (i : Int) + 1 by omega]
      exact he3
    · have lt : b < s.heap.objs.size := by
        have two : b = e ∨ b = it := by simpa using hb
        rcases two with z | z
        · rw [z]; exact hel
        · rw [z]; exact hil
      rw [upd_ne (Nat.ne_of_lt lt)]
      exact (hf b hb).1
  done := by
    intro X hP hw hK hc i pins s σ H E I hf st hg
    subst hP hw hK
    obtain ⟨⟨old, he⟩, hit, hne⟩ := st
    obtain ⟨xs, hq, hx⟩ := hg
    obtain ⟨its, rv, p, hz⟩ := I.tuple hq
    obtain ⟨f0, f1, f2, f3, f4, f5⟩ := hf it (by simp)
    have nai : a ≠ it := fun z => by
      obtain ⟨o1, h1, h2, _⟩ := hit
      obtain ⟨o2, h3, h4, _⟩ := p
      rw [z, h1] at h3
      cases h3
      rw [h2] at h4
      exact absurd h4 (by decide)
    have hl := rv.length
    refine wpAny_pyNext_enum_endD (Draws.tuple (A := X.A.in1) (by exact I.ok.hd hc) it a nai its.toArray) he (by rw [List.size_toArray, ← hl, hx]; exact ⟨hit, p⟩) fun h2 eb => ⟨rfl, I.turned (t' := s.toks) (fun b o hb q => eb b o hb q) f0 f1 f3 f4 f5⟩
  self := fun A i s Q E st h => let ⟨⟨_, he⟩, _⟩ := st; wpAny_pyIter_enum he h
theorem pi_enT {X : Cx} {e : Expr} {ta : TA} {p pos tpos : Pos} {elts : List Expr} {kk : Nat} (hg : Gl X "enumerate") (hm : X.mg "enumerate" = none) (ha : PA X [e] ta) (hs : starEach [e] X.env = [(false, eval e X.env)]) :
    PI X (.Tuple elts kk tpos) (.Call (.Name "enumerate" p) [e] [] pos) (fun σ H R => ta σ H fun vs H1 => ∃ a xs, vs = [.ref a] ∧ SqT X.K H1 a xs ∧ R (IteT X.K a) H1) := by
  refine ⟨fun pins s σ H R I h => ?_⟩
  refine PyProof.Rows.Call_ (ld_blt I hg hm PyProof.Rows.boot_enumerate (PyProof.Rows.callWith_type1 (thn (ha.run pos pins s σ H _ I h) fun us s1 ⟨vs, H1, I1, r1, q1⟩ => ?_) hs rfl))
  obtain ⟨a, xs, ex, hq, q⟩ := q1
  subst ex
  obtain ⟨u, rfl, ru⟩ := vals1 r1
  cases ru
  obtain ⟨its, rv, p', hz⟩ := I1.tuple hq
  refine enumCall1 (begins_tuple a its.toArray) (show s1.heap.IsTuple a its.toArray from p') fun h2 he hit hk => wpAny_pyIter_enum he ?_
  have I2 : Inv X pins σ H1 { s1 with heap := h2 } := I1.kept (t' := s1.toks) hk
  refine ⟨s1.heap.objs.size + 1, [s1.heap.objs.size + 1, s1.heap.objs.size], _, _, H1, rfl, I2, turnEnT a (s1.heap.objs.size + 1) s1.heap.objs.size, ⟨⟨.none, he⟩, ⟨_, hit, rfl, rfl⟩, Nat.succ_ne_self _⟩, fun b hb => ?_, q⟩
  have le : s1.heap.objs.size ≤ b := by
    have two : b = s1.heap.objs.size + 1 ∨ b = s1.heap.objs.size := by simpa using hb
    rcases two with z | z
    · rw [z]; exact Nat.le_add_right _ _
    · rw [z]; exact Nat.le_refl _
  exact I1.fpOk le (I1.hok.fresh le)
section
variable {W : Wd} {X : Cx} {bx : Bx} {Γ : List Slot} {a : Expr} {pos : Pos} {L : List D → Prop} {K : PySem.W.Frag} {en : Ent} {B : Hp}
theorem iteT_ok {p : Addr} {xs : List V} {ds : List D} (h : SqT K B p xs) (m : DqL K B xs ds) : ItOk K (IteT K p) en B (enD ds) where
  go := fun i B' H sb le _ hi => by
    rw [enD_len] at hi
    have hx : i < xs.length := by rw [m.length]; exact hi
    exact ⟨xs, xs[i], le.sqT (sb.le.sqT h), by simp [hx]⟩
  stop := fun i B' H sb le _ hi hj => ⟨xs, le.sqT (sb.le.sqT h), by rw [enD_len] at hi hj; rw [m.length]; omega⟩
  yld := fun i z B' H v H' sb le _ hd y => by
    obtain ⟨T, x, rfl, n, rfl, y⟩ := y
    obtain ⟨d, e1, rfl⟩ := enD_get hd
    exact newPair le n (.int _) ((m.uniq (y xs (le.sqT (sb.le.sqT h))) e1).up sb.le)
theorem pit_enT (hb : Bc W X bx) {p tpos : Pos} {elts : List Expr} {kk : Nat} (h : PL X [a] Γ fun ds => ∃ xs, ds = [.tup xs] ∧ L (enD xs))
    (hg : bx.sc.names.lookup ("enumerate" : Str) = some .globalImplicit := by rfl) (hm : W.mg "enumerate" = none := by assumption) (hs : starEach [a] X.env = [(false, eval a X.env)] := by rfl) : PIt X (.Tuple elts kk tpos) (.Call (.Name "enumerate" p) [a] [] pos) Γ L := fun en σ B H rp R q =>
  ⟨_, pi_enT (by show X.env.scope.names.lookup _ = _; rw [hb.sco]; exact hg) (by rw [hb.mo]; exact hm) (ba X _) hs, h en σ B H rp _ fun vs ds B1 H1 g p m => by
    obtain ⟨xs, rfl, p⟩ := p
    cases m with
    | cons m1 m2 =>
      cases m2
      cases m1 with
      | tup h1 h2 => exact ⟨_, _, rfl, g.le.sqT h1, q _ _ B1 H1 g p (iteT_ok h1 h2)⟩⟩
end
end Dn

/-! Dn14: list comprehensions with two clauses. -/
namespace Dn
open PySem PySem.Spec L2 RZ
section
variable {W : Wd} {X : Cx} {bx : Bx} {Γ : List Slot} {tg iter tg1 iter1 elt : Expr} {pos : Pos} {en : Ent} {B H : Hp} {σ : St} {scope : Scope} {own : List (Str × Nat)} {vs1 : List Nat} {R : O → Prop} {P : D → Prop}
/-- over ds, each item in the slot j; each yields a row of items, each in the slot j1, each item's value F -/
def Lc2Ok (W : Wd) (bx : Bx) (scope : Scope) (iter1 elt : Expr) (Γ : List Slot) (vs vs1 : List Nat) (j j1 : Nat) (R : O → Prop) (ds : List D) : Prop :=
  ∃ (row : D → List D) (F : D → D), (ds.flatMap row).length ≤ sizeLine ∧ R (O.ls ((ds.flatMap row).map F)) ∧ ∀ d ∈ ds,
    (∀ X', Bc W X' (bx.blk scope) → ∀ tg1, PIt X' tg1 iter1 ((wipeG Γ vs).set j (.v d)) fun es => es = row d) ∧ ∀ e ∈ row d, ∀ X', Bc W X' (bx.blk scope) → PP X' elt ((wipeG ((wipeG Γ vs).set j (.v d)) vs1).set j1 (.v e)) fun o => o = F e
/-- the new list as it stands -/
def Lv (K : PySem.W.Frag) (en : Ent) (B1 H1 : Hp) (L : Addr) (acc : List D) (H : Hp) : Prop := ∃ B vals, Go K en B1 H1 B H ∧ H L = some (.lst vals) ∧ B L = none ∧ DqL K B vals acc
theorem Lv.step {K : PySem.W.Frag} {H1 : Hp} {L : Addr} {acc : List D} {B' H' : Hp} {vals : List V} (nM : ∀ a, H1 a = none → ¬ en.M a) (n : H1 L = none) (hL : H L = some (.lst vals)) (bL : B L = none) (m : DqL K B vals acc) (g : Go K en B H B' H') : H' L = some (.lst vals) ∧ B' L = none ∧ DqL K B' vals acc :=
  ⟨g.gr.h L _ hL bL (nM L n), g.gr.s L bL (by rw [hL]; simp), g.ups m⟩
theorem take_flat {α : Type} (row : α → List D) {ds : List α} {i : Nat} {d : α} (h : ds[i]? = some d) : (ds.take (i + 1)).flatMap row = (ds.take i).flatMap row ++ row d := by
  rw [List.take_succ, h]
  simp
theorem flat_len {α : Type} (row : α → List D) (ds : List α) {i : Nat} {d : α} (h : ds[i]? = some d) : ((ds.take i).flatMap row).length + (row d).length ≤ (ds.flatMap row).length := by
  have e : ds.flatMap row = (ds.take (i + 1)).flatMap row ++ (ds.drop (i + 1)).flatMap row := by rw [← List.flatMap_append, List.take_append_drop]
  rw [e, take_flat row h]
  simp
theorem lc2_go (hb : Bc W X bx) (hc : W.calm) {j j1 : Nat} (hj : j ∈ own.map (·.2)) (hj1 : j1 ∈ vs1) (rp : Rp X.K en B H σ Γ) (hi : ∀ R' : It → Hp → Prop, (∀ J ds B' H', Go X.K en B H B' H' → Lc2Ok W bx scope iter1 elt Γ (own.map (·.2)) vs1 j j1 R ds → ItOk X.K J en B' ds → R' J H') → bI X tg iter σ H R')
    {Q : VK} (q : ∀ v o f B' H', Go X.K en B H B' H' → R o → OR X.K B' H' v o f → (∀ a ∈ f, H a = none) → Q v H') :
    tLc2 (bI X tg iter) (gName j) tYes (fun σ H Q => ∀ s H0 C cl fp, bI (blks X scope s H0 C cl fp) tg1 iter1 σ H Q) (gName j1) tYes (fun σ H Q => ∀ s H0 C cl fp, bE (blks X scope s H0 C cl fp) elt σ H Q) (own.map (·.2)) vs1 σ H Q := by
  refine hi _ fun J ds B1 H1 g1 ⟨row, F, hz, je, jt⟩ it D hD => ?_
  have rp1 := g1.rp rp
  have nM : ∀ a, H1 a = none → ¬ en.M a := fun a n m => rp1.gr.p a ((rp1.me a m).1) n
  have hHn : ∀ a, H1 a = none → H a = none := fun a n => by
    cases z : H a with
    | none => rfl
    | some u => exact absurd n (g1.gr.p a (by rw [z]; simp))
  have lkGo : ∀ {B' H'}, Go X.K en B1 H1 B' H' → LkOk en H' := fun g p hp => g.gr.z _ _ _ (rp1.lks p hp)
  refine ⟨fun i m H => m = ds.length - i ∧ i ≤ ds.length ∧ Lv X.K en B1 H1 D (((ds.take i).flatMap row).map F) H, ⟨ds.length, by simp, Nat.zero_le _, B1, [], ?_, upd_same, none_of_le g1.le hD, .nil⟩, ?_⟩
  · exact (Go.refl rp1).wr rp1 hD (none_of_le g1.le hD)
  rintro i m H2 ⟨rfl, hi, B2, vals, g2, hL, bL, dl⟩
  by_cases hlt : i < ds.length
  · refine .inr ⟨it.go i B2 H2 g2.gr.b g2.le (lkGo g2) hlt, Lv X.K en B1 H1 D (((ds.take (i + 1)).flatMap row).map F), fun H' p' => ⟨ds.length - (i + 1), by omega, rfl, hlt, p'⟩, fun x H3 y => ?_⟩
    obtain ⟨d, hd⟩ : ∃ d, ds[i]? = some d := ⟨ds[i], by simp [hlt]⟩
    obtain ⟨B3, gr3, le3, hx⟩ := it.yld i d B2 H2 x H3 g2.gr.b g2.le (lkGo g2) hd y
    have g3 : Go X.K en B2 H2 B3 H3 := Go.of (g2.rp rp1) gr3 le3
    obtain ⟨hi1, hrow⟩ := jt d (List.mem_of_getElem? hd)
    have fl := flat_len row ds hd
    have slots : ∀ {B' H'}, Go X.K en B1 H1 B' H' → Sub B3 B' → Rp X.K en B' H' ((L2.wipe σ (own.map (·.2))).set j (some x)) ((wipeG Γ (own.map (·.2))).set j (.v d)) := fun g s => ((g.rp rp1).wipe (own.map (·.2))).setV j (hx.up s.le)
    refine ⟨wipe_but (But.set hj _), ?_⟩
    simp only [tYes, ↓reduceIte]
    intro s H0 C cl fp
    refine hi1 (blks X scope s H0 C cl fp) (hb.blk hc) tg1 en _ B3 H3 (slots (g2.tr g3) Sub.rfl') _ fun J1 es B4 H4 g4 ees it1 => ?_
    subst ees
    have g24 := g3.tr g4
    obtain ⟨k1, k2, k3⟩ := Lv.step nM hD hL bL dl g24
    refine ⟨fun l m H => m = (row d).length - l ∧ l ≤ (row d).length ∧ ∃ B vals, Go X.K en B1 H1 B H ∧ Sub B4 B ∧ H D = some (.lst vals) ∧ B D = none ∧ DqL X.K B vals ((((ds.take i).flatMap row) ++ (row d).take l).map F),
      ⟨(row d).length, by simp, Nat.zero_le _, B4, vals, g2.tr g24, Sub.rfl', k1, k2, by simpa using k3⟩, ?_⟩
    rintro l m H5 ⟨rfl, hl, B5, vals5, g5, s5, hL5, bL5, dl5⟩
    by_cases hll : l < (row d).length
    · refine .inr ⟨it1.go l B5 H5 s5 g5.le (lkGo g5) hll, fun H => ∃ B vals, Go X.K en B1 H1 B H ∧ Sub B4 B ∧ H D = some (.lst vals) ∧ B D = none ∧ DqL X.K B vals ((((ds.take i).flatMap row) ++ (row d).take (l + 1)).map F), fun H' p' => ⟨(row d).length - (l + 1), by omega, rfl, hll, p'⟩, fun x1 H6 y => ?_⟩
      obtain ⟨e, he⟩ : ∃ e, (row d)[l]? = some e := ⟨_, List.getElem?_eq_getElem hll⟩
      obtain ⟨B6, gr6, le6, hx6⟩ := it1.yld l e B5 H5 x1 H6 s5 g5.le (lkGo g5) he y
      have r5 := slots g5 (g4.gr.b.tr s5)
      have g6 : Go X.K en B5 H5 B6 H6 := Go.of r5 gr6 le6
      have r7 := ((g6.rp r5).wipe vs1).setV j1 hx6
      refine ⟨wipe_but (But.set hj1 _), ?_⟩
      simp only [tYes, ↓reduceIte]
      intro s H0 C cl fp
      refine hrow e (List.mem_of_getElem? he) (blks X scope s H0 C cl fp) (hb.blk hc) en _ B6 H6 r7 _ fun v o B8 H8 g8 eo mo => ?_
      subst eo
      have g58 := g6.tr g8
      obtain ⟨q1, q2, q3⟩ := Lv.step nM hD hL5 bL5 dl5 g58
      have ln := q3.length
      have tk : (row d).take (l + 1) = (row d).take l ++ [e] := by rw [List.take_succ, he]; rfl
      refine ⟨vals5, q1, ?_, B8, vals5 ++ [v], (g5.tr g58).wr rp1 hD q2, s5.tr g58.gr.b, upd_same, q2, ?_⟩
      · rw [List.length_map, List.length_append, List.length_take] at ln
        omega
      · rw [tk, ← List.append_assoc, List.map_append]
        exact q3.snoc mo
    · have ej : l = (row d).length := by omega
      subst ej
      refine .inl ⟨it1.stop _ B5 H5 s5 g5.le (lkGo g5) (Nat.le_refl _) (Nat.le_refl _), B5, vals5, g5, hL5, bL5, ?_⟩
      rw [take_flat row hd]
      simpa using dl5
  · have e : i = ds.length := by omega
    subst e
    refine .inl ⟨it.stop _ B2 H2 g2.gr.b g2.le (lkGo g2) (Nat.le_refl _) (Nat.le_refl _), q _ (O.ls ((ds.flatMap row).map F)) [D] B2 H2 (g1.tr g2) je ?_ fun a ha => ?_⟩
    · rw [List.take_length] at dl
      exact .lst bL hL (ORL.vals dl) (by simp)
    · have e : a = D := by simpa using ha
      subst e
      exact hHn a hD
/-- [elt for x in iter for y in iter1] -/
theorem po_lc2 (hb : Bc W X bx) (hc : W.calm) (own : List (Str × Nat)) (vs1 : List Nat) (j j1 : Nat) {x y : Str} {px py : Pos} (h : PIt X (.Name x px) iter Γ (Lc2Ok W bx scope iter1 elt Γ (own.map (·.2)) vs1 j j1 R)) (hj : j ∈ own.map (·.2) := by decide) (hj1 : j1 ∈ vs1 := by decide) (hv : ∀ i ∈ vs1, i ∈ own.map (·.2) := by decide)
    (hN : bx.N[j]? = some x := by rfl) (hN1 : bx.N[j1]? = some y := by rfl) (hl : (relS scope bx.sc).names.lookup x = some .local := by rfl) (hl1 : (relS scope bx.sc).names.lookup y = some .local := by rfl)
    (hk : blkC bx.N bx.sc scope own = true := by first | (dsimp only; decide +kernel) | decide +kernel | rfl)
    (hs : ∀ x, foldedSetIterable iter X.env x = pure x := by intro _; rfl) (hs1 : ∀ env x, foldedSetIterable iter1 env x = pure x := by intro _ _; rfl) :
    PO X (.ListComp elt [⟨.Name x px, iter, [], 0⟩, ⟨.Name y py, iter1, [], 0⟩] scope pos) Γ R := fun en σ B H rp Q q =>
  ⟨_, pe_lc2 hb.calm (by rw [hb.nn]; exact hb.nd) (bi X _ iter) (by rw [hb.nn, hb.sco]; exact blkOk_by hk) hv
    (fun s H0 C cl fp => pg_name (by show X.N.Nodup; rw [hb.nn]; exact hb.nd) (by show X.N[j]? = _; rw [hb.nn]; exact hN) (.inl (by show (relS scope X.env.scope).names.lookup x = _; rw [hb.sco]; exact hl)) (.inr (by show (relS scope X.env.scope).names.lookup x = _; rw [hb.sco]; exact hl)))
    (fun _ _ _ _ _ => pts_nil)
    (fun s H0 C cl fp => ⟨fun pins s' σ' H' R' I z => (bi _ _ iter1).run pins s' σ' H' R' I (z s H0 C cl fp)⟩)
    (fun s H0 C cl fp => pg_name (by show X.N.Nodup; rw [hb.nn]; exact hb.nd) (by show X.N[j1]? = _; rw [hb.nn]; exact hN1) (.inl (by show (relS scope X.env.scope).names.lookup y = _; rw [hb.sco]; exact hl1)) (.inr (by show (relS scope X.env.scope).names.lookup y = _; rw [hb.sco]; exact hl1)))
    (fun _ _ _ _ _ => pts_nil)
    (fun s H0 C cl fp => ⟨fun pins s' σ' H' Q' I z => (be _ elt).run pins s' σ' H' Q' I (z s H0 C cl fp)⟩) hs hs1,
   lc2_go hb hc hj hj1 rp (h en σ B H rp) q⟩
end
end Dn

/-! Dn15: repr, the keys of dicts, dicts compared, sets sorted, list.index. -/
namespace Dn
open PySem PySem.Spec L2 RZ PySem.W

section
variable {W : Wd} {X : Cx} {bx : Bx} {Γ : List Slot} {a b c e : Expr} {pos : Pos} {R : O → Prop} {P : D → Prop} {T : Bool → Prop} {K : PySem.W.Frag} {B H : Hp}
/-! ### repr -/
mutual
theorem noDict : ∀ (n : Nat) (d : D), Sh n d → d.py.hasDict = false
  | _, .non, _ => rfl
  | _, .bl _, _ => rfl
  | _, .int _, _ => rfl
  | _, .str _, _ => rfl
  | n + 1, .tup ds, s => by
    show PyData.hasDictAll (D.pys ds) = false
    exact noDicts n ds s
  | n + 1, .lst ds, s => by
    show PyData.hasDictAll (D.pys ds) = false
    exact noDicts n ds s
  | 0, .dic _, s => s.elim
  | n + 1, .dic _, s => s.elim
  | 0, .scr _, s => s.elim
  | n + 1, .scr _, s => s.elim
theorem noDicts : ∀ (n : Nat) (ds : List D), (∀ d ∈ ds, Sh n d) → PyData.hasDictAll (D.pys ds) = false
  | _, [], _ => rfl
  | n, d :: ds, s => by
    show (d.py.hasDict || PyData.hasDictAll (D.pys ds)) = false
    rw [noDict n d (s d List.mem_cons_self), noDicts n ds fun x hx => s x (List.mem_cons_of_mem _ hx)]
    rfl
end
/-- repr of a tuple -/
theorem cr_reprT : CallR X (.builtin "repr") (fun xs H Q => ∃ (a : Addr) (d : PyData), xs = [.ref a] ∧ Dp X.K H (.ref a) d ∧ d.showable = true ∧ d.hasDict = false ∧ X.A.guards = some [] ∧ X.A.units + (d.depth + 1) < cLine ∧ d.shown.length ≤ sizeLine ∧ Q (.str d.shown) H) := by
  intro pins s σ H xs us Q I r h
  obtain ⟨a, d, rfl, hd, hs, hn, hg, hu, hz, q⟩ := h
  obtain ⟨u, rfl, ru⟩ := vals1 r
  cases ru
  obtain ⟨as, rd⟩ := Dp.reads I d _ _ hd rfl
  exact repr_of_reads' rd hs (fun z => by rw [hn] at z; cases z) hg hu (fun _ _ q => q) (fun h2 u tk k => ⟨.str _, H, I.kept k, ⟨_, rfl⟩, q⟩) hz
theorem t_repr (hb : Bc W X bx) {n : Nat} {ds : List D} (hs : Sh n (.tup ds)) (h1 : (D.tup ds).py.showable = true) (h2 : (D.tup ds).py.shown.length ≤ sizeLine) (p : P (.str (D.tup ds).py.shown)) (hn : n ≤ 64 := by decide) : Cl X (.builtin "repr") [.tup ds] P :=
  cl_of cr_reprT fun B H vs le m Q q => by
    cases m with
    | cons m1 m2 =>
      cases m2
      have m1' := (m1.up le).dp n _ _ hs
      cases m1 with
      | tup h3 h4 =>
        refine ⟨_, _, rfl, m1', h1, noDict n _ hs, hb.gd, ?_, h2, q _ _ B H Gr.rfl' le p (.str _)⟩
        have := (sh_lay n _ hs).2
        have := hb.room.un
        omega
theorem i_repr {i : Int} (h : i.natAbs.log2 < 1920) (p : P (.str (toString i))) : Cl X (.builtin "repr") [.int i] P := cl_of SkE.call_repr_int fun B H vs le m Q q => by
  cases m with
  | cons m1 m2 =>
    cases m2
    cases m1
    exact ⟨i, rfl, h, q _ _ B H Gr.rfl' le p (.str _)⟩

/-! ### list(d), sorted(d) -/
theorem kv_keys {xs : List (Key × V)} {us : List (Key × Value)} (r : KV xs us) : xs.map (·.1) = us.map (·.1) := by
  induction r with
  | nil => rfl
  | cons r t ih => simp [r.1, ih]
theorem cr_listK (hc : X.calm = true) : CallR X (.type "list") (fun xs H Q => ∃ p kvs, xs = [.ref p] ∧ Rd H p (.dK kvs) ∧ ∀ q, H q = none → Q (.ref q) (upd H q (.lst (kvs.map fun kv => kV kv.1)))) := by
  intro pins s σ H xs us Q I r h
  obtain ⟨p, kvs, rfl, hk, q⟩ := h
  obtain ⟨u, rfl, ru⟩ := vals1 r
  cases ru
  obtain ⟨z, lo, vs, rk, hd⟩ := dk_rd I.hok hk
  obtain ⟨ep, hat⟩ := hd.dictAt
  have hl : kvs.length = vs.length := Paired.length rk
  refine kdl_call (kdl_dict (knd := mixKind X.prog X.w) (kvs := vs) (ep := ep) lo) (I.ok.hd hc) hat (by rw [← hl]; exact z) fun h2 tk acc cap kp hS hacc => ?_
  refine ⟨.ref s.heap.objs.size, _, I.laid (o := .lst (kvs.map fun kv => kV kv.1)) kp (Nat.le_refl _) ⟨by rw [List.length_map]; exact z, acc.toList, cap, ?_, by rw [Array.toArray_toList]; exact hS⟩, rfl, q _ (I.hok.fresh (Nat.le_refl _))⟩
  have el : acc.toList.length = acc.size := by simp
  refine vals_of_at (by rw [List.length_map, el, hacc.1, hl]) fun j x w h1 h3 => ?_
  obtain ⟨k, y, hky, hi⟩ := hacc.2 j w (by rw [← Array.getElem?_toList]; exact h3)
  have e1 : (kvs.map (·.1))[j]? = some k := by
    rw [kv_keys rk, List.getElem?_map, hky]
    rfl
  have e2 : (kvs.map fun kv => kV kv.1)[j]? = some (kV k) := by
    rw [show (kvs.map fun kv => kV kv.1) = (kvs.map (·.1)).map kV by rw [List.map_map]; rfl, List.getElem?_map, e1]
    rfl
  rw [e2] at h1
  cases h1
  exact keyIs_rel hi
theorem dq_keys {xs : List (Key × V)} {kvs : List (Key × D)} (m : DqM K B xs kvs) : DqL K B (xs.map fun kv => kV kv.1) (kvs.map fun kv => kD kv.1) := by
  induction kvs generalizing xs with
  | nil => cases m; exact .nil
  | cons kv kvs ih =>
    obtain ⟨k, d⟩ := kv
    cases m with
    | cons h1 h2 => exact .cons (dq_k k) (ih h2)
theorem d_list (hb : Bc W X bx) {kvs : List (Key × D)} (p : P (.lst (kvs.map fun kv => kD kv.1))) : Cl X (.type "list") [.dic kvs] P := cl_of (cr_listK hb.calm) fun B H vs le m Q q => by
  cases m with
  | cons m1 m2 =>
    cases m2
    cases m1 with
    | dic h1 h2 => exact ⟨_, _, rfl, le.rd h1, fun l n => q _ _ _ _ (Gr.newB le n) (le.newB n) p (Dq.newLst le n (dq_keys h2))⟩
/-- sorted(d), the keys ints, any number -/
theorem cr_sortK (hc : X.calm = true) : CallR X (.builtin "sorted") (fun xs H Q => ∃ p kvs ks, xs = [.ref p] ∧ Rd H p (.dK kvs) ∧ kvs.map (·.1) = ks.map Sum.inl ∧ ∀ (ys : List Int) q, ys.Perm ks → ys.Pairwise (· ≤ ·) → H q = none → Q (.ref q) (upd H q (.lst (ys.map V.int)))) := by
  intro pins s σ H xs us Q I r h
  obtain ⟨p, kvs, ks, rfl, hk, hks, q⟩ := h
  obtain ⟨u, rfl, ru⟩ := vals1 r
  cases ru
  obtain ⟨z, lo, vs, rk, hd⟩ := dk_rd I.hok hk
  obtain ⟨ep, hat⟩ := hd.dictAt
  have kk : vs.map (·.1) = ks.map Sum.inl := (kv_keys rk).symm.trans hks
  have hlv : vs.length = ks.length := by
    have e := congrArg List.length kk
    rw [List.length_map, List.length_map] at e
    exact e
  have hz : vs.length ≤ sizeLine := by rw [← Paired.length rk]; exact z
  refine Calls.call_function_entry PyProof.Rows.kind_sorted PyProof.Rows.plain_sorted PyProof.Rows.entry_sorted (PyProof.Rows.args_sorted1 _) ?_
  unfold Builtin.«sorted»
  refine wpAny_bind (m := checkCount "sorted" 1 1 _) (wpAny_pure ?_)
  refine wpAny_bind (kdu_collect (A := X.A.in1) (kdl_dict (knd := mixKind X.prog X.w) (kvs := vs) (ep := ep) lo) (by exact I.ok.hd hc) hat hz fun h2 tk acc kp hacc => ?_)
  have el : acc.toList.length = acc.size := by simp
  have hal : acc.toList.length = ks.length := by rw [el, hacc.1, hlv]
  have ai : PyProof.Rows.IntsAre acc.toList ks := ints_each hal fun j v e => by
    obtain ⟨k, x, e1, e2⟩ := hacc.2 j v (by rw [← Array.getElem?_toList]; exact e)
    have e3 : (vs.map (·.1))[j]? = some k := by rw [List.getElem?_map, e1]; rfl
    rw [kk, List.getElem?_map] at e3
    cases e4 : ks[j]? with
    | none => rw [e4] at e3; cases e3
    | some y =>
      rw [e4] at e3
      obtain rfl : Sum.inl y = k := Option.some.inj e3
      rcases keyIs_shape (show keyIs (Sum.inl y) v = true from e2) with ⟨i, t, ek, ev⟩ | ⟨z, t, ek, ev⟩
      · cases ek
        exact ⟨y, t, rfl, ev⟩
      · cases ek
  have I1 : Inv X pins σ H { s with heap := h2, toks := tk } := I.kept kp
  refine wpAny_bind (wpAny_newList ?_ (by rw [hal, ← hlv]; exact hz))
  have at0 : (h2.push (PyProof.Rows.seqObj "list" acc.toList.toArray 0)).get? h2.objs.size = some (PyProof.Rows.seqObj "list" acc.toList.toArray 0) := Heap.get?_push_size _ rfl
  show wpAny _ _ _ _ _ { s with heap := h2.push (PyProof.Rows.seqObj "list" acc.toList.toArray 0), toks := tk }
  refine wpAny_bind (wpAny_holding (wpAny_call_entry PyProof.Rows.slot_list_sort ⟨_, at0, rfl⟩ PyProof.Rows.entry_list_sort
    (SrtO.list_sort_ord SrtO.swo_int at0 (by rw [hal, ← hlv]; exact hz) (fun two => SrtO.ints_sortable ai two) fun out g1 g2 => ⟨_, rfl, ?_⟩) (PyProof.Rows.args_list_sort _)))
  obtain ⟨i1, i2, i3⟩ := SrtO.ints_out ai g1 g2
  obtain ⟨e', he'⟩ := PyProof.Rows.sortedHeap_at (vs := acc.toList) (out := out.toArray) at0
  refine wpAny_pure ⟨_, rfl, .ref h2.objs.size, upd H h2.objs.size (.lst ((out.map SrtO.iv).map V.int)), I1.laid (t' := tk) (fun b u e => ?_) (Nat.le_refl _)
    (show ObjOk X.prog X.w _ _ _ (.lst ((out.map SrtO.iv).map V.int)) from ⟨by rw [List.length_map, i2.length_eq, ← hlv]; exact hz, out, e', vals_of_ints i1, he'⟩), rfl, q _ _ i2 i3 (I1.hok.fresh (Nat.le_refl _))⟩
  have hb : b < h2.objs.size := Heap.lt_size e
  rw [PyProof.Rows.sortedHeap_old (Nat.ne_of_lt hb) (by rw [PyProof.Rows.size_push']; exact Nat.lt_succ_of_lt hb)]
  exact Heap.get?_push_of_some _ e
theorem perm_sorted_eq : ∀ {l m : List Int}, l.Perm m → l.Pairwise (· ≤ ·) → m.Pairwise (· ≤ ·) → l = m
  | [], m, h, _, _ => h.nil_eq
  | x :: l, [], h, _, _ => absurd h.length_eq (by simp)
  | x :: l, y :: m, h, h1, h2 => by
    obtain ⟨a1, a2⟩ := List.pairwise_cons.mp h1
    obtain ⟨b1, b2⟩ := List.pairwise_cons.mp h2
    have e : x = y := by
      have hx : x ∈ y :: m := h.mem_iff.mp List.mem_cons_self
      have hy : y ∈ x :: l := h.mem_iff.mpr List.mem_cons_self
      rcases List.mem_cons.mp hx with z | z
      · exact z
      · rcases List.mem_cons.mp hy with w | w
        · exact w.symm
        · exact Int.le_antisymm (a1 y w) (b1 x z)
    subst e
    rw [perm_sorted_eq h.cons_inv a2 b2]
theorem sorted_leI (l : List Int) : (l.mergeSort leI).Pairwise (· ≤ ·) := by
  have := List.pairwise_mergeSort (le := leI) (fun a b c h1 h2 => by
    simp only [leI, decide_eq_true_eq] at *
    omega) (fun a b => by
    simp only [leI, Bool.or_eq_true, decide_eq_true_eq]
    omega) l
  exact this.imp fun h => by simpa [leI] using h
theorem d_sortK (hb : Bc W X bx) {kvs : List (Key × D)} {ks : List Int} (hk : kvs.map (·.1) = ks.map Sum.inl) (p : P (.lst ((ks.mergeSort leI).map .int))) : Cl X (.builtin "sorted") [.dic kvs] P := cl_of (cr_sortK hb.calm) fun B H vs le m Q q => by
  cases m with
  | cons m1 m2 =>
    cases m2
    cases m1 with
    | dic h1 h2 =>
      refine ⟨_, _, ks, rfl, le.rd h1, h2.keys.trans hk, fun ys l pm pw n => ?_⟩
      have e : ys = ks.mergeSort leI := perm_sorted_eq (pm.trans (List.mergeSort_perm ks leI).symm) pw (sorted_leI ks)
      subst e
      exact q _ _ _ _ (Gr.newB le n) (le.newB n) p (Dq.newLst le n ints_dq)
end
end Dn

/-! Dn16: set(l) of a list of ints, sorted. -/
namespace Dn
open PySem PySem.Spec PyProof.Rows
open L2 (SetR setR_new_at set_update_ints code_set_led1 CallR V Hp VK Vals upd SetO setO_new setO_get HO)
/-- a set that has just been made -/
abbrev newS (w : World) : Obj := { cls := .type "set", dict := none, data := .set #[] 0 (.fresh 0 0 (!w.params.followText "set-order")) }
section
variable {P : Program} {w : World} {A : Around} {E : Value → Shared → Prop} {s : Shared}
theorem setOfList {l : Addr} {its : Array Value} (ks : List Int) {Q : Value → Shared → Prop} (calm : A.handled = none) (isl : s.heap.IsList l its) (ai : IntsAre its.toList ks) (room : ks.length + 1 < scanBound)
    (fin : ∀ (hp2 : Heap) (tk cn : Nat), SetR w hp2 s.heap.objs.size (fun j => decide (j ∈ ks)) cn → cn ≤ ks.length → (∀ b o, s.heap.get? b = some o → hp2.get? b = some o) → Q (.ref s.heap.objs.size) { s with heap := hp2, toks := tk }) :
    wpAny (model P w) A (call (.type "set") [.ref l]) Q E s := by
  have isz : its.size = ks.length := by
    have z := IntsAre.length ai
    rwa [Array.length_toList] at z
  obtain ⟨cls0, tl0, mro0⟩ := F.called_set.mro
  have made0 := F.called_set.made
  have sub0 := F.called_set.sub
  refine wpAny_call (codeAny_of_tree ?_)
  show wpAny _ _ (callAny (.type "set") _) _ _ _
  refine wpAny_pure ⟨Code.quiet_builtin _ (by decide +kernel), (codeAny_builtin F.entry_type_call) ?_⟩
  rw [(Around.under_plain (weight_type_call_type "set" [.ref l] [])) rfl]
  have n1 := F.called_set.notType
  have n2 := F.called_set.canCreate
  have n3 := F.typeCall_set_1 (.ref l)
  repeat (any_goals (first | assumption | wp_step))
  refine codeAny_mono (code_set_led1 (.ref l) (E := E) (Q₁ := fun ob st => ob = .ref s.heap.objs.size ∧ st = { s with heap := s.heap.push (newS w) }) ⟨rfl, rfl⟩) fun r st hr => ?_
  match r, hr with
  | .error e, hr => exact hr
  | .ok (.ret ob), hr =>
    obtain ⟨rfl, rfl⟩ := hr
    have at0 : (s.heap.push (newS w)).get? s.heap.objs.size = some (newS w) := Heap.get?_push_size _ rfl
    have isT : Shared.TypeIs { s with heap := s.heap.push (newS w) } (.ref s.heap.objs.size) "set" := ⟨_, at0, rfl⟩
    have look0 := F.called_set.init.lookup
    have bind0 := F.called_set.init.bind (.ref s.heap.objs.size)
    repeat (any_goals (first | assumption | wp_step))
    refine codeAny_mono (codeAny_call_builtin (R := wants (fun r st => r = .none ∧ ∃ hp2 tk cn, st = { s with heap := hp2, toks := tk } ∧ SetR w hp2 s.heap.objs.size (fun j => decide (j ∈ ks)) cn ∧ cn ≤ ks.length ∧
        (∀ b o, s.heap.get? b = some o → hp2.get? b = some o)) E) F.called_set.init.plain F.entry_set_init (check_set_init_1 isT ?_)) fun r2 st2 hr2 => ?_
    · obtain ⟨ol, hol, hcl, nl, hdl⟩ := isl
      obtain ⟨oc, od, odata, osl⟩ := ol
      simp only at hcl hdl
      subst hcl
      subst hdl
      have hol2 : (s.heap.push (newS w)).get? l = some { cls := .type "list", dict := od, data := .seq its nl, slots := osl } := Heap.get?_push_of_some _ hol
      have sls := F.sub_list_set
      have slf := F.sub_list_frozenset
      have ndict : (Value.type "list" == Value.type "dict") = false := by decide
      have isl1 : (s.heap.push (newS w)).IsList l its := ⟨_, hol2, rfl, nl, rfl⟩
      unfold Builtin.«set.__init__» noKeywords Builtin.Frozenset.updateFrom
      generalize hIter : pyIter = Iter
      wp_walk
      subst hIter
      refine wpAny_pyIter_list isl1 ?_
      refine wpAny_bind (wpAny_runValue ?_)
      have lS : l < s.heap.objs.size := Heap.lt_size hol
      have calm3 : A.in1.in1.in1.handled = none := by simp [calm]
      have size1 : (s.heap.push (newS w)).objs.size = s.heap.objs.size + 1 := Heap.size_push ..
      have neI : l ≠ (s.heap.push (newS w)).objs.size := by
        rw [Heap.size_push]
        exact Nat.ne_of_lt (Nat.lt_succ_of_lt lS)
      have apart : s.heap.objs.size ∉ [(s.heap.push (newS w)).objs.size, l] := by
        rw [Heap.size_push]
        simp only [List.mem_cons, List.not_mem_nil, or_false, not_or]
        exact ⟨Nat.ne_of_lt (Nat.lt_succ_self _), Nat.ne_of_gt lS⟩
      have vals0 : ∀ (i : Nat) (v : Value), its[i]? = some v → ∃ k t, ks[i]? = some k ∧ v = .int k t := fun i v hv => by
        have li : i < ks.length := by rw [← isz]; exact (Array.getElem?_eq_some_iff.mp hv).1
        obtain ⟨t, e⟩ := IntsAre.int_at ai i v (by rw [Array.getElem?_toList]; exact hv)
        refine ⟨ks[i], t, List.getElem?_eq_getElem li, ?_⟩
        rw [e, List.getD_eq_getElem?_getD, List.getElem?_eq_getElem li]
        rfl
      refine set_update_ints ((Walks.list calm3 _ l neI its).toS) s.heap.objs.size apart ks isz room vals0 (its.size - 0) 0 _ (by omega) (Nat.zero_le _) ⟨⟨_, Heap.get?_push_size _ rfl, rfl, rfl⟩, (isl1.push _)⟩ ?hs0 ?hr0
      case hs0 =>
        have got : ((s.heap.push (newS w)).push { cls := .type "list_iterator", data := .fields #[.ref l, .int 0 0] }).get? s.heap.objs.size = some (newS w) := Heap.get?_push_of_some _ at0
        exact ⟨0, Nat.le_refl 0, setR_new_at got⟩
      case hr0 =>
        intro st3 c3 mv hc3 hS3
        obtain ⟨hp3, g3, d3, tk3, os3⟩ := st3
        obtain rfl : g3 = s.gens := mv.gens
        obtain rfl : d3 = s.drawn := mv.drawn
        obtain rfl : os3 = s.os := mv.os
        show wpAny _ _ _ _ _ _
        refine wpAny_pure ?_
        show wpAny _ _ (ret Value.none) _ _ _
        rw [isz] at hc3
        refine wpAny_pure ⟨rfl, hp3, tk3, c3, rfl, hS3, hc3, fun b o e => ?_⟩
        have b0 : b < s.heap.objs.size := Heap.lt_size e
        refine mv.heap b o ?_ (Heap.get?_push_of_some _ (Heap.get?_push_of_some _ e))
        rw [Heap.size_push]
        simp only [List.mem_cons, List.not_mem_nil, or_false, not_or]
        exact ⟨Nat.ne_of_lt b0, Nat.ne_of_lt (Nat.lt_succ_of_lt b0)⟩
    · match r2, hr2 with
      | .error e, hr2 => exact hr2
      | .ok (.ret r), hr2 =>
        obtain ⟨rfl, hp2, tk, cn, rfl, hS2, hc2, kp2⟩ := hr2
        repeat (any_goals (first | assumption | wp_step))
        exact fin _ _ _ hS2 hc2 kp2
      | .ok .next, hr2 => exact hr2.elim
      | .ok .brk, hr2 => exact hr2.elim
      | .ok .cont, hr2 => exact hr2.elim
  | .ok .next, hr => exact hr.elim
  | .ok .brk, hr => exact hr.elim
  | .ok .cont, hr => exact hr.elim
end
section
variable {P : Program} {w : World} {A : Around} {E : Value → Shared → Prop} {s : Shared} {a : Addr}
/-- sorted of a set of ints, any size -/
theorem sortedSet {S : Int → Bool} {n : Nat} {Q : Value → Shared → Prop} (R : SetR w s.heap a S n) (calm : A.handled = none) (hz : n ≤ sizeLine)
    (fin : ∀ st p (out : Array Value) (cp : Nat) (ks : List Int), (∀ b o, s.heap.get? b = some o → st.heap.get? b = some o) → st.gens = s.gens → st.os = s.os → s.heap.objs.size ≤ p →
      st.heap.get? p = some (seqObj "list" out cp) → IntsAre out.toList ks → ks.Pairwise (· < ·) → (∀ k, k ∈ ks ↔ S k = true) → ks.length = n → Q (.ref p) st) : wpAny (model P w) A (call (.builtin "sorted") [.ref a]) Q E s := by
  obtain ⟨o, es, ep, t, ho, hex, hd, good, nd, hm, hb, hf, hn, hr, hl⟩ := R
  refine Calls.call_function_entry kind_sorted plain_sorted entry_sorted (args_sorted1 _) ?_
  unfold Builtin.«sorted»
  refine wpAny_bind (m := checkCount "sorted" 1 1 _) (wpAny_pure ?_)
  refine wpAny_bind (L2.collect_set (A := A.in1) (by exact calm) ⟨o, ho, hex.1, hd⟩ hf hb hr hl fun s1 vs kp1 sz1 g1 o1 pm => ?_)
  have lv : vs.length = n := by rw [pm.length_eq, List.length_map, Array.length_toList]; exact hn
  have ai : IntsAre vs (vs.map Builtin.Re.reRawOf) := L2.ints_of vs fun v hv => by
    obtain ⟨e, he, q⟩ := List.mem_map.mp (pm.mem_iff.mp hv)
    obtain ⟨k, tk, h1, _⟩ := good e he
    exact ⟨k, tk, by rw [← q]; exact h1⟩
  have pk : (vs.map Builtin.Re.reRawOf).Perm (es.toList.map L2.keyOf) := by
    have q := pm.map Builtin.Re.reRawOf
    rw [List.map_map] at q
    exact q
  refine wpAny_bind (wpAny_newList ?_ (by rw [lv]; exact hz))
  have at0 : (s1.heap.push (seqObj "list" vs.toArray 0)).get? s1.heap.objs.size = some (seqObj "list" vs.toArray 0) := Heap.get?_push_size _ rfl
  refine wpAny_bind (wpAny_holding (wpAny_call_entry slot_list_sort ⟨_, at0, rfl⟩ entry_list_sort (SrtO.list_sort_ord SrtO.swo_int at0 (by rw [lv]; exact hz) (fun two => SrtO.ints_sortable ai two) fun out a1 a2 => ⟨_, rfl, ?_⟩) (args_list_sort _)))
  obtain ⟨i1, i2, i3⟩ := SrtO.ints_out ai a1 a2
  obtain ⟨cp, hc⟩ := sortedHeap_at (vs := vs) (out := out.toArray) at0
  have pn := i2.trans pk
  refine wpAny_pure ⟨_, rfl, fin _ s1.heap.objs.size out.toArray cp _ (fun b u e => ?_) g1 o1 sz1 hc (by simpa using i1) (L2.lt_of_le_nodup _ i3 (pn.nodup_iff.mpr nd)) (fun k => by rw [pn.mem_iff, ← hm k]) ?_⟩
  · have q := kp1 b u e
    have lt := Heap.lt_size q
    show (sortedHeap (s1.heap.push (seqObj "list" vs.toArray 0)) s1.heap.objs.size vs out.toArray).get? b = some u
    rw [sortedHeap_old (Nat.ne_of_lt lt) (by rw [size_push']; exact Nat.lt_succ_of_lt lt)]
    exact Heap.get?_push_of_some _ q
  · rw [pn.length_eq, List.length_map, Array.length_toList]
    exact hn
end
end Dn

/-! Dn17: sorted(set(e)), dicts compared, list.index, xs[::-1]. -/
namespace Dn
open PySem PySem.Spec L2 RZ PySem.W
section
variable {W : Wd} {X : Cx} {bx : Bx} {Γ : List Slot} {a b c e : Expr} {pos : Pos} {R : O → Prop} {P : D → Prop} {T : Bool → Prop} {K : PySem.W.Frag} {B H : Hp}
/-! ### sorted(set(e)) -/
theorem cr_setL (hc : X.calm = true) : CallR X (.type "set") (fun xs H Q => ∃ (a : Addr) (ns : List Int), xs = [.ref a] ∧ Rd H a (.lst (ns.map V.int)) ∧ ns.length < 4000 ∧ ∀ p n, n ≤ ns.length → H p = none → Q (.ref p) (upd H p (SetO X.w p (fun j => decide (j ∈ ns)) n))) := by
  intro pins s σ H xs us Q I r h
  obtain ⟨a, ns, rfl, hr, hz, q⟩ := h
  obtain ⟨u, rfl, ru⟩ := vals1 r
  cases ru
  obtain ⟨its, rv, pl, _⟩ := I.list (.inl hr)
  have ai := Vals.ints rv
  refine setOfList ns (I.ok.hd hc) pl.isList (by simpa using ai) (by show ns.length + 1 < 4096; omega) fun hp2 tk cn hS hcn kp => ?_
  refine ⟨.ref _, upd H s.heap.objs.size (SetO X.w s.heap.objs.size (fun j => decide (j ∈ ns)) cn), I.laid (t' := tk) kp (Nat.le_refl _) (setO_new hS), rfl, q _ _ hcn (I.hok.fresh (Nat.le_refl _))⟩
theorem cr_sortSet (hc : X.calm = true) : CallR X (.builtin "sorted") (fun vs H Q => ∃ (a : Addr) (S : Int → Bool) (n : Nat), vs = [V.ref a] ∧ H a = some (SetO X.w a S n) ∧ n ≤ sizeLine ∧
    ∀ (ns : List Int) (p : Addr), ns.Pairwise (· < ·) → (∀ k : Int, k ∈ ns ↔ S k = true) → H p = none → Q (.ref p) (upd H p (.lst (ns.map V.int)))) := by
  intro pins s σ H vs us Q I r h
  obtain ⟨a, S, n, rfl, ha, hz, q⟩ := h
  have R := setO_get I ha
  rw [Vals.ref1 r]
  refine sortedSet R (I.ok.hd hc) hz fun s' p out c ns k g o hp hg hi hs hm hl => ?_
  have hlen : (ns.map V.int).length ≤ sizeLine := by rw [List.length_map, hl]; exact hz
  have hn : H p = none := I.hok.fresh hp
  have J : Inv X pins σ (upd H p (.lst (ns.map V.int))) { s with heap := s'.heap, gens := s'.gens, drawn := s'.drawn, toks := s'.toks } :=
    I.call (ch := []) (Un.laid k hp hn) (I.hok.laid k hp ⟨hlen, out.toList, c, vals_of_ints hi, hg⟩) (by rw [g]; exact I.bare) (fun _ z => nomatch z)
  have e : s' = { s with heap := s'.heap, gens := s'.gens, drawn := s'.drawn, toks := s'.toks } := by
    cases s'
    cases s
    cases o
    rfl
  rw [e]
  exact ⟨.ref p, _, J, rfl, q ns p hs hm hn⟩
theorem pp_sortSet (hb : Bc W X bx) {p1 p2 p3 : Pos} (h : PP X e Γ fun d => ∃ ns : List Int, d = .lst (ns.map .int) ∧ ns.length < 4000 ∧ ∀ ks : List Int, ks.Pairwise (· < ·) → (∀ k, k ∈ ks ↔ k ∈ ns) → P (.lst (ks.map .int)))
    (hg1 : bx.sc.names.lookup ("sorted" : Str) = some .globalImplicit := by rfl) (hm1 : W.mg ("sorted" : Str) = none := by assumption) (hg2 : bx.sc.names.lookup ("set" : Str) = some .globalImplicit := by rfl) (hm2 : W.mg ("set" : Str) = none := by assumption)
    (he : starEach [e] X.env = [(false, eval e X.env)] := by rfl) (he2 : starEach [.Call (.Name "set" p1) [e] [] p2] X.env = [(false, eval (.Call (.Name "set" p1) [e] [] p2) X.env)] := by rfl) :
    PP X (.Call (.Name "sorted" p3) [.Call (.Name "set" p1) [e] [] p2] [] pos) Γ P := fun en σ B H rp Q q => by
  have z1 : PE X (.Call (.Name "set" p1) [e] [] p2) _ := pe_callTy (cr_setL hb.calm) (by show X.env.scope.names.lookup ("set" : Str) = _; rw [hb.sco]; exact hg2) (by rw [hb.mo]; exact hm2) (by rfl) (pa_cons (be X e) pa_nil he) (by decide) (by decide) he rfl
  refine ⟨_, pe_callB (cr_sortSet hb.calm) (by show X.env.scope.names.lookup ("sorted" : Str) = _; rw [hb.sco]; exact hg1) (by rw [hb.mo]; exact hm1) (by rfl) (pa_cons z1 pa_nil he2) (by decide) (by decide) he2 rfl, ?_⟩
  refine h en σ B H rp _ fun v d B1 H1 g1 ⟨ns, ed, hz, p⟩ m => ?_
  subst ed
  cases m with
  | @lst a xs _ h1 h2 =>
    have e := dq_ints h2
    subst e
    refine ⟨a, ns, rfl, g1.le.rd h1, hz, fun s n hn nf => ?_⟩
    refine ⟨s, _, n, rfl, upd_same, by rw [sizeLine_eq]; omega, fun ks p' hp hk hp' => ?_⟩
    have g2 : Go X.K en B1 H1 B1 (upd H1 s (SetO X.w s (fun j => decide (j ∈ ns)) n)) := .of (g1.rp rp) (Gr.new nf) (g1.le.new nf)
    exact q _ _ _ _ (g1.tr (g2.tr (.of (g2.rp (g1.rp rp)) (Gr.newB g2.le hp') (g2.le.newB hp')))) (p ks hp fun k => by rw [hk]; simp) (Dq.newLst g2.le hp' ints_dq)
/-! ### xs[::-1] -/
theorem pp_rev {k : Nat} {p1 p2 p3 : Pos} (h : PP X e Γ fun d => ∃ ds, d = .lst ds ∧ P (.lst ds.reverse)) : PP X (.Subscript e (.Slice none none (some (.UnaryOp .USub (.Constant (.int 1) k p1) p2)) p3) pos) Γ P := fun en σ B H rp Q q =>
  ⟨_, pe_revL (be X e), h en σ B H rp _ fun v d B1 H1 g1 ⟨ds, ed, p⟩ m => by
    subst ed
    cases m with
    | lst h1 h2 => exact ⟨_, _, rfl, .inl (g1.le.rd h1), fun p' n => q _ _ _ _ (g1.tr (.of (g1.rp rp) (Gr.newB g1.le n) (g1.le.newB n))) p (Dq.newLst g1.le n h2.rev)⟩⟩
/-! ### dicts compared that are the same -/
def rSameK (K : PySem.W.Frag) (t : Bool) : R2 := fun x y H Q => ∃ a b ks ls, x = .ref a ∧ y = .ref b ∧ Rd H a (.dK ks) ∧ Rd H b (.dK ls) ∧ ks.length = ls.length ∧
  (∀ p ∈ ks, ∃ u d e, valV ls p.1 = some u ∧ Dp K H p.2 d ∧ Dp K H u e ∧ SeqAt.shaped d = true ∧ SeqAt.shaped e = true ∧ PyData.eqv d e = true) ∧ Q (.bl t) H
theorem same_hits {pins : List (Addr × Obj)} {σ : St} {s : Shared} {A : Around} (I : Inv X pins σ H s) (hu : A.in1.units + 64 < cLine) {ls : List (Key × V)} {vb : List (Key × Value)} (rb : KV ls vb) : ∀ {ks : List (Key × V)} {va : List (Key × Value)}, KV ks va →
    (∀ p ∈ ks, ∃ u d e, valV ls p.1 = some u ∧ Dp X.K H p.2 d ∧ Dp X.K H u e ∧ SeqAt.shaped d = true ∧ SeqAt.shaped e = true ∧ PyData.eqv d e = true) → KeqHits A.in1 s vb va true := by
  intro ks va ra
  unfold KV at ra
  induction ra with
  | nil => intro _; exact .nil
  | @cons p q ps qs h t k =>
    intro hp
    obtain ⟨h1, h2⟩ := h
    obtain ⟨u, d, e, hu1, h3, h4, s1, s2, he⟩ := hp p List.mem_cons_self
    have rr : RelO (some u) (valueAt vb p.1) := by rw [← hu1]; exact rb.val p.1
    obtain ⟨y, hy, ry⟩ := rr.some_of
    obtain ⟨key, v⟩ := q
    have h1' : p.1 = key := h1
    rw [h1'] at hy
    obtain ⟨as, r1⟩ := Dp.reads I d _ _ h3 h2
    obtain ⟨bs, r2⟩ := Dp.reads I e _ _ h4 ry
    have z := KeqHits.hit hy (keq_at (A := A) r1 r2 s1 s2 hu) (k fun p' hm => hp p' (List.mem_cons_of_mem _ hm))
    rw [he] at z
    exact z
theorem op_eqSame (hu : X.A.units + 65 < cLine) : OpR X (compareOp .Eq) (rSameK X.K true) := by
  intro pins s σ H x y v u Q I rx ry h
  obtain ⟨a, b, ks, ls, rfl, rfl, ha, hb, hl, hp, q⟩ := h
  cases rx
  cases ry
  obtain ⟨_, ya, va, ra, da⟩ := dk_rd I.hok ha
  obtain ⟨_, yb, vb, rb, db⟩ := dk_rd I.hok hb
  refine keq_eq (knd := mixKind X.prog X.w) (r := true) ya yb da db (by omega) (fun _ => same_hits I (by show X.A.units + 1 + 64 < cLine; omega) rb ra hp) ?_
  have e : va.length = vb.length := by rw [← Paired.length ra, ← Paired.length rb]; exact hl
  rw [show (va.length == vb.length && true) = true from by rw [e]; simp]
  exact ⟨.bl true, H, I, rfl, q⟩
theorem op_neSame (hu : X.A.units + 65 < cLine) : OpR X (compareOp .NotEq) (rSameK X.K false) := by
  intro pins s σ H x y v u Q I rx ry h
  obtain ⟨a, b, ks, ls, rfl, rfl, ha, hb, hl, hp, q⟩ := h
  cases rx
  cases ry
  obtain ⟨_, ya, va, ra, da⟩ := dk_rd I.hok ha
  obtain ⟨_, yb, vb, rb, db⟩ := dk_rd I.hok hb
  refine keq_ne (knd := mixKind X.prog X.w) (r := true) ya yb da db (by omega) (fun _ => same_hits I (by show X.A.units + 1 + 64 < cLine; omega) rb ra hp) ?_
  have e : va.length = vb.length := by rw [← Paired.length ra, ← Paired.length rb]; exact hl
  rw [show (!(va.length == vb.length && true)) = false from by rw [e]; simp]
  exact ⟨.bl false, H, I, rfl, q⟩
/-- the same keys, the same data at each -/
def SameD (n : Nat) (kvs ls : List (Key × D)) : Prop := kvs.length = ls.length ∧ ∀ kv ∈ kvs, dGet ls kv.1 = some kv.2 ∧ Sh n kv.2 ∧ NoB n kv.2
theorem dqm_mem : ∀ {ks : List (Key × V)} {kvs : List (Key × D)} {p : Key × V}, DqM K B ks kvs → p ∈ ks → ∃ d, (p.1, d) ∈ kvs ∧ Dq K B p.2 d
  | [], _, p, h, hp => by cases hp
  | _ :: _, _, p, h, hp => by
    cases h with
    | cons h1 h2 =>
      rcases List.mem_cons.mp hp with e | e
      · subst e
        exact ⟨_, List.mem_cons_self, h1⟩
      · obtain ⟨d, m, x⟩ := dqm_mem h2 e
        exact ⟨d, List.mem_cons_of_mem _ m, x⟩
theorem same_go {n : Nat} {kvs ls : List (Key × D)} {v w : V} (hs : SameD n kvs ls) (hn : n ≤ 64) (hv : Dq K H v (.dic kvs)) (hw : Dq K H w (.dic ls)) {t : Bool} {Q : VK} (q : Q (.bl t) H) : rSameK K t v w H Q := by
  cases hv with
  | @dic a ks _ h1 h2 =>
    cases hw with
    | @dic b us _ h3 h4 =>
      refine ⟨a, b, ks, us, rfl, rfl, h1, h3, by rw [h2.length, h4.length]; exact hs.1, fun p hp => ?_, q⟩
      obtain ⟨d, m, x⟩ := dqm_mem h2 hp
      obtain ⟨g1, g2, g3⟩ := hs.2 _ m
      rcases h4.look p.1 with ⟨_, y⟩ | ⟨u, d', y1, y2, y3⟩
      · rw [show dGet ls p.1 = some d from g1] at y
        cases y
      · rw [show dGet ls p.1 = some d from g1] at y2
        cases y2
        exact ⟨u, _, _, y1, x.dp n _ _ g2, y3.dp n _ _ g2, shaped_of g2 hn, shaped_of g2 hn, (eqv_iff n d d g3 g3).mpr rfl⟩
theorem c_eqSame (hb : Bc W X bx) {n : Nat} {kvs ls : List (Key × D)} (hs : SameD n kvs ls) (t : T true) (hn : n ≤ 64 := by decide) : Cmp X .Eq (.dic kvs) (.dic ls) T :=
  cmp_of (op_eqSame (u65 hb)) fun H v w hv hw Q q => same_go hs hn hv hw (q _ t)
theorem c_neSame (hb : Bc W X bx) {n : Nat} {kvs ls : List (Key × D)} (hs : SameD n kvs ls) (t : T false) (hn : n ≤ 64 := by decide) : Cmp X .NotEq (.dic kvs) (.dic ls) T :=
  cmp_of (op_neSame (u65 hb)) fun H v w hv hw Q q => same_go hs hn hv hw (q _ t)
end
end Dn

/-! Dn18: list.index. -/
namespace Dn
open PySem PySem.Spec L2 RZ PySem.W
section
variable {W : Wd} {X : Cx} {bx : Bx} {Γ : List Slot} {o e : Expr} {pos apos cpos : Pos} {R : O → Prop} {P : D → Prop} {T : Bool → Prop} {K : PySem.W.Frag} {B H : Hp}
theorem pys_int (ns : List Int) : D.pys (ns.map D.int) = ns.map PyData.int := by
  rw [pys_map, List.map_map]
  rfl
theorem idx_spec : ∀ {ns : List Int} {k : Int}, k ∈ ns → ns[ns.idxOf k]? = some k ∧ ∀ m z, m < ns.idxOf k → ns[m]? = some z → z ≠ k
  | [], k, h => by cases h
  | n :: ns, k, h => by
    by_cases e : n = k
    · subst e
      simp [List.idxOf_cons]
    · have h' : k ∈ ns := by
        rcases List.mem_cons.mp h with z | z
        · exact absurd z.symm e
        · exact z
      obtain ⟨h1, h2⟩ := idx_spec h'
      have e2 : (n :: ns).idxOf k = ns.idxOf k + 1 := by
        have z : (n == k) = false := by simpa using e
        rw [List.idxOf_cons, z]
        rfl
      rw [e2]
      refine ⟨by simpa using h1, fun m z hm hz => ?_⟩
      cases m with
      | zero =>
        simp at hz
        rw [← hz]
        exact e
      | succ m => exact h2 m z (by omega) (by simpa using hz)
theorem pp_index (hb : Bc W X bx) (h : PP X o Γ fun d => ∃ ns : List Int, d = .lst (ns.map .int) ∧ PP X e Γ fun x => ∃ k : Int, x = .int k ∧ k ∈ ns ∧ P (.int (ns.idxOf k)))
    (hbase : attributeBase o "index" X.env (eval o X.env) = eval o X.env := by rfl)
    (hfew : ((backTo cpos (starEach (e :: []) X.env)).all (fun x => !x.1) && (backToKw cpos (keywordEach [] X.env)).all (fun x => x.1.isSome)
      && decide ((e :: []).length + ([] : List Keyword).length + (if ([] : List Keyword).isEmpty then 0 else 1) < 30)) = true := by rfl)
    (hline : (apos.endLine == cpos.line) = true := by rfl) (hs : starEach (e :: []) X.env = (false, eval e X.env) :: starEach [] X.env := by rfl) : PP X (.Call (.Attribute o "index" apos) [e] [] cpos) Γ P := fun en σ B H rp Q q =>
  ⟨_, pe_bm PySem.F.plainAttrs_list PySem.F.slot_list_index PySem.F.type_list_index (mt_indexD (u65 hb)) (be X o) (pa_cons (be X e) pa_nil hs) hbase hfew hline hs rfl, h en σ B H rp _ fun v d B1 H1 g1 ⟨ns, ed, p⟩ m => by
    subst ed
    cases m with
    | @lst a xs _ h1 h2 =>
      have ee := dq_ints h2
      subst ee
      refine ⟨.inl ⟨rfl, _, .inl (g1.le.rd h1)⟩, p en σ B1 H1 (g1.rp rp) _ fun w x B2 H2 g2 ⟨k, ex, hk, pk⟩ mx => ?_⟩
      subst ex
      have rd2 : Rd H2 a (.lst (ns.map V.int)) := g2.le.rd (Le.rd (Sub.le g2.gr.b) h1)
      have sh : Sh 1 (D.lst (ns.map D.int)) := fun d hd => by
        obtain ⟨i, _, rfl⟩ := List.mem_map.mp hd
        trivial
      have dp := Dq.dp (K := X.K) (B := H2) 1 (D.lst (ns.map D.int)) (.ref a) sh (.lst rd2 ints_dq)
      obtain ⟨i1, i2⟩ := idx_spec hk
      refine ⟨a, w, .int k, D.pys (ns.map D.int), ns.idxOf k, .int k, rfl, rfl, dp, Dq.dp 0 (.int k) _ trivial (mx.up g2.le), shaped_of sh, shaped_of (n := 0) (d := .int k) trivial, ?_, ?_, fun m z hm hz => ?_, q _ _ B2 H2 (g1.tr g2) pk (.int _)⟩
      · rw [pys_int, List.getElem?_map, i1]
        rfl
      · show PyData.eqv (D.int k).py (D.int k).py = true
        rw [eqv_int]
        simp
      · rw [pys_int, List.getElem?_map] at hz
        cases q1 : ns[m]? with
        | none => rw [q1] at hz; cases hz
        | some y =>
          rw [q1] at hz
          cases hz
          show PyData.eqv (D.int y).py (D.int k).py = false
          rw [eqv_int]
          simpa using i2 m y hm q1⟩
end
end Dn

/-! Dn19: displays of trees, xs[i] = e, a tree is lent from here on, repr of None. -/
namespace Dn
open PySem PySem.Spec L2 RZ PySem.W
section
variable {W : Wd} {X : Cx} {bx : Bx} {Γ : List Slot} {o e ix : Expr} {pos apos cpos : Pos} {R : O → Prop} {P : D → Prop} {T : Bool → Prop} {K : PySem.W.Frag} {B H : Hp} {E : En} {rest : List Stmt}
/-- [..] of trees -/
theorem po_lstO {es : List Expr} (h : PLo X es Γ fun os => os.length ≤ sizeLine ∧ R (.lst os)) : PO X (.List es pos) Γ R := fun en σ B H rp Q q =>
  ⟨_, pe_lst (ba X es), h en σ B H rp _ fun vs os f B1 H1 g1 p m n => ⟨by rw [orl_len m]; exact p.1, fun a na => by
    have nb := none_of_le g1.le na
    have nf : a ∉ f := fun z => (ORL.foot _ _ _ m a z).2 na
    refine q (.ref a) _ (a :: f) B1 _ (g1.tr (.of (g1.rp rp) (Gr.new na) (g1.le.new na))) p.2 (.lst nb upd_same (ORL.keep Sub.rfl'.le _ _ _ m fun b hb => ⟨upd_ne fun z => nf (z ▸ hb), (ORL.foot _ _ _ m b hb).1⟩) nf) fun b hb => ?_
    rcases List.mem_cons.mp hb with rfl | hb
    · cases z : H b with
      | none => rfl
      | some u => exact absurd na (g1.gr.p b (by rw [z]; simp))
    · exact n b hb⟩⟩
/-- xs[::-1]: a list of its own -/
theorem po_rev {k : Nat} {p1 p2 p3 : Pos} (h : PP X e Γ fun d => ∃ ds, d = .lst ds ∧ R (O.ls ds.reverse)) : PO X (.Subscript e (.Slice none none (some (.UnaryOp .USub (.Constant (.int 1) k p1) p2)) p3) pos) Γ R := fun en σ B H rp Q q =>
  ⟨_, pe_revL (be X e), h en σ B H rp _ fun v d B1 H1 g1 ⟨ds, ed, p⟩ m => by
    subst ed
    cases m with
    | lst h1 h2 => exact ⟨_, _, rfl, .inl (g1.le.rd h1), fun p' n => q _ _ [p'] B1 _ (g1.tr (.of (g1.rp rp) (Gr.new n) (g1.le.new n))) p (.lst (none_of_le g1.le n) upd_same (ORL.vals h2.rev) (by simp)) fun b hb => by
        have e : b = p' := by simpa using hb
        subst e
        cases z : H b with
        | none => rfl
        | some u => exact absurd n (g1.gr.p b (by rw [z]; simp))⟩⟩
/-- xs[ix] = e, xs a list of data of the def's own -/
theorem ws_setAt (hb : Bc W X bx) (i : Nat) {ds : List D} {x : Str} {p spos : Pos} (hΓ : Γ[i]? = some (.own (O.ls ds))) (h : PP X e Γ fun d => PP X ix Γ fun kd => ∃ k : Int, kd = .int k ∧ 0 ≤ k ∧ k < ds.length ∧ E.nx (Γ.set i (.own (O.ls (ds.set k.toNat d))))) (hN : bx.N[i]? = some x := by rfl)
    (hv : Vis bx.sc x := by first | exact Or.inl rfl | exact Or.inr (Or.inl rfl) | exact Or.inr (Or.inr rfl)) (hd : (x == ("__debug__" : Str)) = false := by decide) (hcd : (x == ("__classdict__" : Str)) = false := by decide)
    (ha : ∀ v, assign (.Subscript (.Name x p) ix spos) X.env v = (do
      let ov ← holding [v] (eval (.Name x p) X.env)
      let iv ← holding [v, ov] (eval ix X.env)
      standAt spos
      holding [v, ov, iv] (setItem ov iv v)
      release [v, ov, iv] []) := by intro _; rfl)
    (hs : swapsWithSole [.Subscript (.Name x p) ix spos] e pos.line X.env = pure false := by rfl) (hw : swappedStores [.Subscript (.Name x p) ix spos] e X.env = pure none := by rfl)
    (h1 : (assignEach [.Subscript (.Name x p) ix spos] X.env).map (·.2) = [assign (.Subscript (.Name x p) ix spos) X.env] := by rfl) : WS X (.Assign [.Subscript (.Name x p) ix spos] e pos) Γ E := fun en σ B H D rp eo => by
  refine ⟨_, ps_asg (be X e) (pg_sub (pe_var (by rw [hb.nn]; exact hN) (by rw [hb.sco]; exact hv) hd hcd) (be X ix) set_list ha) hs hw h1, h en σ B H rp _ fun u d B1 H1 g1 q m => ?_⟩
  have rp1 := g1.rp rp
  obtain ⟨v, f, h1, h2, _⟩ := rp1.mut hΓ
  refine ⟨v, h1, q en σ B1 H1 rp1 _ fun w kd B2 H2 g2 ⟨k, ek, hk0, hk, q2⟩ mk => ?_⟩
  subst ek
  cases mk
  have rp2 := g2.rp rp1
  obtain ⟨v', f', h1', h2', kk⟩ := rp2.mut hΓ
  rw [h1] at h1'
  cases h1'
  cases h2' with
  | @lst a xs _ f' nB' hH' ol nf' =>
    obtain ⟨ef, mm⟩ := ORL.vals_inv ol
    subst ef
    have hl : xs.length = ds.length := mm.length
    refine ⟨a, xs, k, k.toNat, rfl, rfl, hH', ?_, eo.nx B2 _ σ _ (g1.tr g2).gr.b (kk a List.mem_cons_self _ (O.ls (ds.set k.toNat d)) [a] (fun _ z => z) (.lst nB' upd_same (ORL.vals (mm.set k.toNat (g2.up m))) (by simp))) q2⟩
    unfold ixN
    rw [if_pos hk0, if_pos (by omega)]
/-- from here on the tree in the slot i is lent; nothing else of the frame is a tree -/
theorem wss_lend (i : Nat) {I : O → Prop} {o : O} (hΓ : Γ[i]? = some (.own o)) (hI : I o) (ho : ∀ j o', j ≠ i → Γ[j]? = some (.own o') → ∃ d, o' = .val d) (hn : ∀ (j : Nat) (I' : O → Prop), Γ[j]? ≠ some (Slot.bor I'))
    (h : WSs X rest (Γ.set i (.bor I)) { nx := fun _ => False, rt := E.rt }) : WSs X rest Γ E := fun en σ B H D rp eo => by
  obtain ⟨F, f1, f2, f3⟩ := rp.sl
  have w := f3 i
  rw [hΓ] at w
  obtain ⟨v, h1, h2⟩ := w
  have ft := OR.foot _ _ _ h2
  have hE : ∀ a, en.H a ≠ none → a ∉ F i := fun a ha hm => ha (f2 i a hm)
  have lift : ∀ {B' H'}, Gr (· ∈ F i) B H B' H' → Gr en.M en.B en.H B' H' := fun g =>
    ⟨rp.gr.b.tr g.b, fun a u h b m => g.h a u (rp.gr.h a u h b m) (rp.gr.s a b (by rw [h]; simp)) (hE a (by rw [h]; simp)), fun a o u h => g.z a o u (rp.gr.z a o u h), fun a h => g.p a (rp.gr.p a h), fun a b h => g.s a (rp.gr.s a b h) (rp.gr.p a h)⟩
  refine h ⟨B, H, (· ∈ F i), some (v, I), en.lk⟩ σ B H D ⟨rp.le, Gr.rfl', by simpa using rp.len, ⟨o, F i, hI, h2, fun a ha => ha⟩, ⟨fun j => [], (fun _ _ _ z => nomatch z), (fun _ _ z => nomatch z), fun j => ?_⟩, fun a ha => ⟨(ft a ha).2, (ft a ha).1⟩, rp.lks⟩
    ⟨fun _ _ _ _ _ _ z => z.elim, fun _ _ _ _ _ _ z => z.elim, fun _ _ _ _ _ _ z => z.elim, fun v' o' f' B' H' s g l w' k z ro nf => ?_, .no⟩
  · rw [get_set]
    by_cases e1 : j = i
    · subst e1
      have q : j < Γ.length := (List.getElem?_eq_some_iff.mp hΓ).1
      simp only [q, and_self, if_true]
      exact ⟨v, h1, rfl, rfl⟩
    · have n1 : ¬ (i = j ∧ j < Γ.length) := fun z => e1 z.1.symm
      simp only [if_neg n1]
      have w := f3 j
      cases q : Γ[j]? with
      | none => exact rfl
      | some sl =>
        rw [q] at w
        cases sl with
        | own o' =>
          obtain ⟨v', y1, y2⟩ := w
          obtain ⟨d, rfl⟩ := ho j o' e1 q
          generalize hF : F j = Fj at y2
          cases y2 with
          | val y3 => exact ⟨v', y1, .val y3⟩
        | bor I' => exact absurd q (hn j I')
        | no => exact rfl
  · refine eo.rt v' o' f' B' H' s (lift g) l ?_ k z ro fun a ha => ?_
    · have wb := rp.bw
      unfold BwOk at wb ⊢
      cases hbw : en.bw with
      | none => trivial
      | some y =>
        rw [hbw] at wb
        obtain ⟨v2, I2⟩ := y
        obtain ⟨o2, g2, i2, r2, mm⟩ := wb
        refine ⟨o2, g2, i2, OR.keep g.b.le _ _ _ r2 fun a ha => ?_, mm⟩
        have nm := rp.me a (mm a ha)
        obtain ⟨t1, t2⟩ := OR.foot _ _ _ r2 a ha
        cases z : H a with
        | none => exact absurd z t2
        | some u => exact ⟨g.h a u z t1 (hE a nm.1), g.s a t1 (by show H a ≠ none; rw [z]; simp)⟩
    · have := nf a ha
      cases z : en.H a with
      | none => rfl
      | some u => exact absurd this (rp.gr.p a (by rw [z]; simp))
/-- repr of None -/
theorem cr_reprN : CallR X (.builtin "repr") (fun xs H Q => xs = [.non] ∧ Q (.str "None") H) := by
  intro pins s σ H xs us Q I r h
  obtain ⟨rfl, q⟩ := h
  obtain ⟨u, rfl, ru⟩ := vals1 r
  cases ru
  exact PySem.P.repr_of_none ⟨.str "None", H, I.tok _, ⟨_, rfl⟩, q⟩
theorem n_repr (p : P (.str "None")) : Cl X (.builtin "repr") [.non] P := cl_of cr_reprN fun B H vs le m Q q => by
  cases m with
  | cons m1 m2 =>
    cases m2
    cases m1
    exact ⟨rfl, q _ _ B H Gr.rfl' le p (.str _)⟩
end
end Dn

/-! Dn20: a, b = x, y where a comprehension behind it sees the names. -/
namespace Dn
open PySem PySem.Spec L2 RZ PySem.W
section
variable {W : Wd} {X : Cx} {bx : Bx} {Γ : List Slot} {tg e : Expr} {pos : Pos} {E : En}
theorem ws_asgT (hb : Bc W X bx) (h : PP X e Γ fun d => PGd X tg d Γ (fun _ => True) E.nx) (hw : swappedStores [tg] e { X.env with scope := bx.sc } = pure none := by rfl) (hs : swapsWithSole [tg] e pos.line X.env = pure false := by rfl)
    (h1 : (assignEach [tg] X.env).map (·.2) = [assign tg X.env] := by rfl) : WS X (.Assign [tg] e pos) Γ E :=
  ws_asg h hs (by rw [sw_scope (env' := { X.env with scope := bx.sc }) hb.sco]; exact hw) h1
/-- name = a comprehension, the name seen by another one -/
theorem ws_setC (hb : Bc W X bx) (i : Nat) {x : Str} {p : Pos} (h : PO X e Γ fun o => E.nx (Γ.set i (.own o))) (hN : bx.N[i]? = some x := by rfl) (hx : Loc bx.sc x := by first | exact Or.inl rfl | exact Or.inr rfl)
    (hf : bx.fn x = true ∨ bx.sc.names.lookup x = some .local := by first | exact Or.inl rfl | exact Or.inr rfl) (hs : swapsWith e (some (.Name x p)) pos.line { X.env with scope := bx.sc } = pure false := by rfl) : WS X (.Assign [.Name x p] e pos) Γ E :=
  ws_set hb i h hN hx hf (by rw [swaps_scope (env' := { X.env with scope := bx.sc }) hb.sco]; exact hs)
end
end Dn

/-! Dn21: a, b = x, y of trees where a comprehension behind it sees the names; len of a tree that is read. -/
namespace Dn
open PySem PySem.Spec L2 RZ PySem.W
section
variable {W : Wd} {X : Cx} {bx : Bx} {Γ : List Slot} {a b c e : Expr} {pos : Pos} {E : En} {P : D → Prop}
theorem ORL.newTup {K : PySem.W.Frag} {B H : Hp} {p : Addr} {o : HO} {vs : List V} {os : List O} {f : List Addr} (m : ORL K B H vs os f) (n : H p = none) : ORL K B (upd H p o) vs os f :=
  ORL.keep Sub.rfl'.le _ _ _ m fun b hb => ⟨upd_ne fun z => (ORL.foot _ _ _ m b hb).2 (z ▸ n), (ORL.foot _ _ _ m b hb).1⟩
theorem ws_parT (hb : Bc W X bx) (i j : Nat) {x y : Str} {px py pt : Pos} {kt k2 pt2} (h : PLo X [a, b] Γ fun os => ∃ o1 o2, os = [o1, o2] ∧ E.nx ((Γ.set i (.own o1)).set j (.own o2))) (hij : i ≠ j := by decide)
    (hi : bx.N[i]? = some x := by rfl) (hj : bx.N[j]? = some y := by rfl) (hx : Loc bx.sc x := by first | exact Or.inl rfl | exact Or.inr rfl) (hy : Loc bx.sc y := by first | exact Or.inl rfl | exact Or.inr rfl)
    (fx : bx.fn x = true ∨ bx.sc.names.lookup x = some .local := by first | exact Or.inl rfl | exact Or.inr rfl) (fy : bx.fn y = true ∨ bx.sc.names.lookup y = some .local := by first | exact Or.inl rfl | exact Or.inr rfl)
    (hw : swappedStores [.Tuple [.Name x px, .Name y py] kt pt] (.Tuple [a, b] k2 pt2) { X.env with scope := bx.sc } = pure none := by rfl)
    (hs : swapsWithSole [.Tuple [.Name x px, .Name y py] kt pt] (.Tuple [a, b] k2 pt2) pos.line X.env = pure false := by rfl)
    (h1 : (assignEach [.Tuple [.Name x px, .Name y py] kt pt] X.env).map (·.2) = [assign (.Tuple [.Name x px, .Name y py] kt pt) X.env] := by rfl)
    (s1 : (assignEach [.Name x px, .Name y py] X.env).map (·.2) = assign (.Name x px) X.env :: (assignEach [.Name y py] X.env).map (·.2) := by rfl)
    (s2 : (assignEach [.Name y py] X.env).map (·.2) = assign (.Name y py) X.env :: (assignEach [] X.env).map (·.2) := by rfl)
    (hn : (assignEach [.Name x px, .Name y py] X.env).length = 2 := by rfl) (hst : (assignEach [.Name x px, .Name y py] X.env).findIdx? (·.1) = none := by rfl) :
    WS X (.Assign [.Tuple [.Name x px, .Name y py] kt pt] (.Tuple [a, b] k2 pt2) pos) Γ E := fun en σ B H D rp eo =>
  have nd : X.N.Nodup := by rw [hb.nn]; exact hb.nd
  have gx : PG X (.Name x px) (gName i) := pg_name nd (by rw [hb.nn]; exact hi) (by rw [hb.sco]; exact hx) (by rw [hb.fno, hb.sco]; exact fx)
  have gy : PG X (.Name y py) (gName j) := pg_name nd (by rw [hb.nn]; exact hj) (by rw [hb.sco]; exact hy) (by rw [hb.fno, hb.sco]; exact fy)
  ⟨_, ps_asg (pe_tup (ba X _)) (pg_tup (n := 2) hb.calm (L2.pgs_cons gx (L2.pgs_cons gy L2.pgs_nil s2) s1) hn hst) hs (by rw [sw_scope (env' := { X.env with scope := bx.sc }) hb.sco]; exact hw) h1,
   h en σ B H rp _ fun vs os f B' H' g ⟨o1, o2, e, p⟩ m n => by
    subst e
    refine ⟨by rw [orl_len m]; exact Nat.le_trans (by decide : 2 ≤ 1000) (by rw [sizeLine_eq]; decide), fun q hq => ?_⟩
    have m' := m.newTup (o := HO.tup vs) hq
    cases m' with
    | @cons v1 _ _ _ f1 _ m1 m2 d1 =>
      cases m2 with
      | @cons v2 _ _ _ f2 _ m2 m3 d2 =>
        cases m3
        refine ⟨q, [v1, v2], rfl, .inl (.inl upd_same), rfl, v1, [v2], rfl, v2, [], rfl, rfl, ?_⟩
        have g' : Go X.K en B H B' (upd H' q (.tup [v1, v2])) := g.tr (.of (g.rp rp) (Gr.new hq) (g.le.new hq))
        exact eo.nx B' _ _ _ g.gr.b (rp.growSet2 g'.gr g'.le g'.bw hij m1 m2 (fun a ha => n a (by simp [ha])) (fun a ha => n a (by simp [ha])) (fun a h1 h2 => d1 a h1 (by simp [h2]))) p⟩
theorem ws_parT3 (hb : Bc W X bx) (i j l : Nat) {x y z : Str} {px py pz pt : Pos} {kt k2 pt2} (h : PLo X [a, b, c] Γ fun os => ∃ o1 o2 o3, os = [o1, o2, o3] ∧ E.nx (((Γ.set i (.own o1)).set j (.own o2)).set l (.own o3)))
    (hi : bx.N[i]? = some x := by rfl) (hj : bx.N[j]? = some y := by rfl) (hl : bx.N[l]? = some z := by rfl) (hx : Loc bx.sc x := by first | exact Or.inl rfl | exact Or.inr rfl) (hy : Loc bx.sc y := by first | exact Or.inl rfl | exact Or.inr rfl) (hz : Loc bx.sc z := by first | exact Or.inl rfl | exact Or.inr rfl)
    (fx : bx.fn x = true ∨ bx.sc.names.lookup x = some .local := by first | exact Or.inl rfl | exact Or.inr rfl) (fy : bx.fn y = true ∨ bx.sc.names.lookup y = some .local := by first | exact Or.inl rfl | exact Or.inr rfl) (fz : bx.fn z = true ∨ bx.sc.names.lookup z = some .local := by first | exact Or.inl rfl | exact Or.inr rfl)
    (hw : swappedStores [.Tuple [.Name x px, .Name y py, .Name z pz] kt pt] (.Tuple [a, b, c] k2 pt2) { X.env with scope := bx.sc } = pure none := by rfl)
    (hs : swapsWithSole [.Tuple [.Name x px, .Name y py, .Name z pz] kt pt] (.Tuple [a, b, c] k2 pt2) pos.line X.env = pure false := by rfl)
    (h1 : (assignEach [.Tuple [.Name x px, .Name y py, .Name z pz] kt pt] X.env).map (·.2) = [assign (.Tuple [.Name x px, .Name y py, .Name z pz] kt pt) X.env] := by rfl)
    (s1 : (assignEach [.Name x px, .Name y py, .Name z pz] X.env).map (·.2) = assign (.Name x px) X.env :: (assignEach [.Name y py, .Name z pz] X.env).map (·.2) := by rfl)
    (s2 : (assignEach [.Name y py, .Name z pz] X.env).map (·.2) = assign (.Name y py) X.env :: (assignEach [.Name z pz] X.env).map (·.2) := by rfl)
    (s3 : (assignEach [.Name z pz] X.env).map (·.2) = assign (.Name z pz) X.env :: (assignEach [] X.env).map (·.2) := by rfl)
    (hn : (assignEach [.Name x px, .Name y py, .Name z pz] X.env).length = 3 := by rfl) (hst : (assignEach [.Name x px, .Name y py, .Name z pz] X.env).findIdx? (·.1) = none := by rfl) :
    WS X (.Assign [.Tuple [.Name x px, .Name y py, .Name z pz] kt pt] (.Tuple [a, b, c] k2 pt2) pos) Γ E := fun en σ B H D rp eo =>
  have nd : X.N.Nodup := by rw [hb.nn]; exact hb.nd
  have gx : PG X (.Name x px) (gName i) := pg_name nd (by rw [hb.nn]; exact hi) (by rw [hb.sco]; exact hx) (by rw [hb.fno, hb.sco]; exact fx)
  have gy : PG X (.Name y py) (gName j) := pg_name nd (by rw [hb.nn]; exact hj) (by rw [hb.sco]; exact hy) (by rw [hb.fno, hb.sco]; exact fy)
  have gz : PG X (.Name z pz) (gName l) := pg_name nd (by rw [hb.nn]; exact hl) (by rw [hb.sco]; exact hz) (by rw [hb.fno, hb.sco]; exact fz)
  ⟨_, ps_asg (pe_tup (ba X _)) (pg_tup (n := 3) hb.calm (L2.pgs_cons gx (L2.pgs_cons gy (L2.pgs_cons gz L2.pgs_nil s3) s2) s1) hn hst) hs (by rw [sw_scope (env' := { X.env with scope := bx.sc }) hb.sco]; exact hw) h1,
   h en σ B H rp _ fun vs os f B' H' g ⟨o1, o2, o3, e, p⟩ m n => by
    subst e
    refine ⟨by rw [orl_len m]; exact Nat.le_trans (by decide : 3 ≤ 1000) (by rw [sizeLine_eq]; decide), fun q hq => ?_⟩
    have m' := m.newTup (o := HO.tup vs) hq
    cases m' with
    | @cons v1 _ _ _ f1 _ m1 m2 d1 =>
      cases m2 with
      | @cons v2 _ _ _ f2 _ m2 m3 d2 =>
        cases m3 with
        | @cons v3 _ _ _ f3 _ m3 m4 d3 =>
          cases m4
          refine ⟨q, [v1, v2, v3], rfl, .inl (.inl upd_same), rfl, v1, [v2, v3], rfl, v2, [v3], rfl, v3, [], rfl, rfl, ?_⟩
          have g' : Go X.K en B H B' (upd H' q (.tup [v1, v2, v3])) := g.tr (.of (g.rp rp) (Gr.new hq) (g.le.new hq))
          exact eo.nx B' _ _ _ g.gr.b (rp.growSet3 g'.gr g'.le g'.bw m1 m2 m3 (fun a ha => n a (by simp [ha])) (fun a ha => n a (by simp [ha])) (fun a ha => n a (by simp [ha])) (fun a h1 h2 => d1 a h1 (by simp [h2])) (fun a h1 h2 => d1 a h1 (by simp [h2])) fun a h1 h2 => d2 a h1 (by simp [h2])) p⟩
/-- len of what is read -/
def lenD : D → Option Nat
  | .lst ds => some ds.length
  | .tup ds => some ds.length
  | .dic ds => some ds.length
  | _ => none
theorem len_go {K : PySem.W.Frag} {H : Hp} {v : V} {d : D} {n : Nat} (h : Dq K H v d) (e : lenD d = some n) {Q : VK} (q : Q (.int n) H) : bCl X (.builtin "len") [v] H Q ∨ X.K ≠ K := by
  by_cases hk : X.K = K
  · subst hk
    refine .inl ?_
    cases h with
    | lst h1 h2 => cases e; exact ⟨_, call_len_seq, _, _, rfl, .inl (.inl h1), by rw [h2.length]; exact q⟩
    | tup h1 h2 => cases e; exact ⟨_, call_len_seq, _, _, rfl, .inr h1, by rw [h2.length]; exact q⟩
    | dic h1 h2 => cases e; exact ⟨_, call_len_dK, _, _, rfl, h1, by rw [h2.length]; exact q⟩
    | _ => cases e
  · exact .inr hk
theorem pp_lenR (hb : Bc W X bx) {p : Pos} (h : PR X e Γ fun o => ∃ n, lenD o.toD = some n ∧ P (.int n)) (hg : bx.sc.names.lookup ("len" : Str) = some .globalImplicit := by rfl) (hm : W.mg ("len" : Str) = none := by assumption)
    (he : starEach [e] X.env = (false, eval e X.env) :: starEach [] X.env := by rfl) (hpl : (backTo pos (starEach [] X.env)).any (·.1) = false := by rfl) : PP X (.Call (.Name "len" p) [e] [] pos) Γ P := fun en σ B H rp Q q =>
  ⟨_, pe_callB (bcl X _) (by show X.env.scope.names.lookup _ = _; rw [hb.sco]; exact hg) (by rw [hb.mo]; exact hm) (by rfl) (pa_cons (be X e) pa_nil he) (by decide) (by decide) he hpl,
   h en σ B H rp _ fun v o f B1 H1 g1 ⟨n, e1, p1⟩ m nm => ((len_go (X := X) (m.frz.up (frzB_le g1.le)) e1 (Q := Q) (q _ _ B1 H1 g1 p1 (.int _))).resolve_right fun z => z rfl)⟩
end
end Dn

/-! Ex1: an own exception over a class without body over ValueError, whose __init__ says super().__init__("..") and stores one field, is made. -/
namespace Xm
open PySem PySem.W PySem.Calls PyProof.Rows PySem.HandSPX
def xA (a1 a2 : Pos) (f : Str) : Arguments := { posonlyargs := [], args := [{ arg := "self", annotation := none, pos := a1 }, { arg := f, annotation := none, pos := a2 }], vararg := none, kwonlyargs := [], kw_defaults := [], kwarg := none, defaults := [] }
def xB (p0 p1 p2 p3 p4 p5 q1 q2 q3 q4 : Pos) (m f : Str) (j : Nat) : List Stmt :=
  [.Expr (.Call (.Attribute (.Call (.Name "super" p0) [] [] p1) "__init__" p2) [.Constant (.str m) j p3] [] p4) p5, .Assign [.Attribute (.Name "self" q1) f q2] (.Name f q3) q4]
def xS (f : Str) : Scope := { kind := .function, names := [(PySem.Str.ofString "self", .local), (f, .local), (PySem.Str.ofString "__class__", .free), (PySem.Str.ofString "super", .globalImplicit)], isGenerator := false, isCoroutine := false, more := [] }
/-- how super().__init__("..") is evaluated -/
def Hev (p0 p1 p2 p3 p4 : Pos) (m : Str) (j : Nat) : Prop := ∃ pl : Env → Sem Bool, ∀ env : Env, eval (.Call (.Attribute (.Call (.Name "super" p0) [] [] p1) "__init__" p2) [.Constant (.str m) j p3] [] p4) env = (do
  let ov ← attributeBase (.Call (.Name "super" p0) [] [] p1) "__init__" env (eval (.Call (.Name "super" p0) [] [] p1) env)
  standAt p2.atName
  let (f, first) ← holding [ov] (getMethod ov "__init__" (pl env))
  callWith p4 f first (backTo p4 (starEach [.Constant (.str m) j p3] env)) [])
/-- what the written part says of the class nm, at C, and of its __init__, at fI -/
structure XTxt (P : Program) (K : Frag) (mg : Str → Option Value) (nm f : Str) (C fI cc cda : Addr) : Prop where
  gC : mg nm = some (.ref C)
  cls : ∃ nm q N bs bm sn sub ab col dd k0 k1 k2 k3 k5, K.lookup C = some (excClassObj nm q C N bs bm true sn sub ab col dd k0 k1 k2 k3 k5 "ValueError.__new__") ∧ refsVE bm = true
  sa : findIn K (.ref C) "__setattr__" = some (some (.builtin "object.__setattr__"))
  noN : findIn K (.ref C) f = some none
  iC : findIn K (.ref C) "__init__" = some (some (.ref fI))
  tC : typeIn K (.ref fI) = some (.type "function")
  kC : keepIn K (.ref C) = true
  exC : subIn K (.ref C) (.type "BaseException") = some true
  tyC : typeIn K (.ref C) = some (.type "type")
  subVE : subIn K (.ref C) (.type "ValueError") = some true
  mro : mroIn K C (.ref C) = some true
  stat : nsIn K cStatics "thirdparty.any" = some none
  sup : ks_superIn K C C "__init__" = some (some (.builtin "ValueError.__init__"))
  mgs : mg "super" = none
  top : (P.main.scope.names.lookup ("super" : Str)).isSome = false
  cell : ∃ cl cld csl, K.lookup cc = some ⟨cl, cld, .cell (some (.ref C)), csl⟩
  code : ∃ ccl cdd vs ccs file tf, K.lookup cda = some ⟨ccl, cdd, .fields vs, ccs⟩ ∧ vs[2]? = some (.str file tf) ∧ ((P.main.file : Str) == file) = true
  fn : ∃ (oc : Value) (od : Option Addr) (q : Str) (doc pm : Value) (an : Option Addr) (ct : Value) (osl : Array (Option Value)) (a1 a2 p0 p1 p2 p3 p4 p5 q1 q2 q3 q4 : Pos) (m : Str) (j : Nat),
    K.lookup fI = some ⟨oc, od, .func (ksFn "__init__" q (xA a1 a2 f) (xB p0 p1 p2 p3 p4 p5 q1 q2 q3 q4 m f j) (xS f) .none .none doc pm an (.ref cda) ct cc), osl⟩ ∧ codeIn K (.ref cda) q = true ∧ Hev p0 p1 p2 p3 p4 m j
  fs : (xS f).names.lookup f = some .local
  fd : (f == ("__debug__" : Str)) = false
  fself : f ≠ "self"
  fsup : (xS f).names.lookup ("super" : Str) = some .globalImplicit
  fcls : (xS f).names.lookup ("__class__" : Str) = some .free
  nocell : ∀ x ∈ (xS f).names, x.2 ≠ .cell
  bd : ∀ (q : Str) (a1 a2 : Pos) (B : List Stmt) (doc pm : Value) (an : Option Addr) (cd ct : Value) (cc : Addr) (x v : Value), bindArgs (ksFn "__init__" q (xA a1 a2 f) B (xS f) .none .none doc pm an cd ct cc) ⟨[x, v], []⟩ = pure [(("self" : Str), x), (f, v)]
/-- what __init__ leaves of a fresh exception at x -/
structure InitEnd (f : Str) (h h' : Heap) (x C dx t1 : Addr) (v : Value) : Prop where
  keep : ∀ b o, b ≠ x → h.get? b = some o → h'.get? b = some o
  obj : h'.get? x = some { cls := .ref C, dict := some dx, data := .fields #[.ref t1, .none, .none, .none, .bool false, .none] }
  dbig : h.objs.size ≤ dx
  dne : dx ≠ x
  ns : h'.Ns1 dx (fun y => if y = f then some v else none)
section
variable {prog : Program} {w : World} {A : Around} {E : Value → Shared → Prop} {R : Result → Shared → Prop} {s : Shared} {K : Frag} {mg : Str → Option Value} {nm f : Str} {C fI cc cda : Addr} {base : Heap}
/-- ValueError.__init__ bound to the object, called -/
theorem call_mw {u x t0 : Addr} {rest : List Value} {Q : Value → Shared → Prop} {nm q : Str} {N : Addr} {bs bm : List Value} {sn : List Str} {sub : List Value} {ab : Bool} {col : Option Bool} {dd : Option Addr} {k0 k1 k2 k3 k5 : Option Value} {h : Heap} {g : Array GenState} {d : Drawn} {t : Nat} {os : OsState}
    (hC : h.get? C = some (excClassObj nm q C N bs bm true sn sub ab col dd k0 k1 k2 k3 k5 "ValueError.__new__")) (hx : h.get? x = some (excO C t0)) (hu : h.get? u = some (kxs_mw "ValueError.__init__" x)) (hrest : rest.length ≤ sizeLine)
    (hq : ∀ h' t1, (∀ b o, b ≠ x → h.get? b = some o → h'.get? b = some o) → h'.get? x = some (excO C t1) → Q .none ⟨h', g, d, t, os⟩) :
    wpAny (model prog w) A (call (.ref u) rest) Q E ⟨h, g, d, t, os⟩ := by
  refine wpAny_call (codeAny_of_tree ?_)
  show wpAny _ A.in1 (callAny (.ref u) ⟨rest, []⟩) _ _ _
  simp only [callAny]
  refine wpAny_bind (wpAny_load hu ?_)
  simp only [kxs_mw, show (Value.type "method-wrapper" == Value.type "method" || Value.type "method-wrapper" == Value.type "builtin_function_or_method" || Value.type "method-wrapper" == Value.type "method-wrapper") = true by decide, if_true]
  refine KFB.if_so (by decide) ?_
  refine wpAny_bind (check_bound_init F.excBase_ValueError.toExcCallFacts hC hx rfl ?_)
  refine wpAny_bind (wpAny_pure (wpAny_pure ?_))
  refine ⟨plainId_quiet F.excBase_ValueError.init.plain _, codeAny_builtin F.excBase_ValueError.initEntry ?_⟩
  rw [Around.under_plainId F.excBase_ValueError.init.plain _]
  wp_walk
  refine hq _ h.objs.size (fun b o hb ho => ?_) ?_
  · rw [Heap.get?_update_other _ _ (Ne.symm hb)]
    exact Heap.get?_push_of_some _ ho
  · rw [Heap.get?_update_self _ (Heap.get?_push_of_some _ hx) rfl]
    rfl
theorem own_init (T : XTxt prog K mg nm f C fI cc cda) (M : L2.Mod K mg base) (bk : ∀ b o, base.get? b = some o → s.heap.get? b = some o) {x t0 : Addr} {v : Value} (hx : s.heap.get? x = some (excO C t0)) (hnb : base.get? x = none) (hroom : A.depth < recursionLimit)
    (hq : ∀ h' tk dx t1, InitEnd f s.heap h' x C dx t1 v → R (.ok (.ret .none)) { s with heap := h', toks := tk }) :
    codeAny (model prog w) A (.call (.ref fI) ⟨[.ref x, v], []⟩) R s := by
  obtain ⟨oc, od, qq, doc, pm, an, ct, osl, a1, a2, p0, p1, p2, p3, p4, p5, q1, q2, q3, q4, m, j, ho, hcd, pl, hev⟩ := T.fn
  obtain ⟨nm', q, N, bs, bm, sn, sub, ab, col, dd, k0, k1, k2, k3, k5, hC, hbm⟩ := T.cls
  have hcl : clsIn K C = some { name := nm', bases := bs, mro := .ref C :: bm, ns := N, qualname := q, hasDict := true, slotNames := sn, subclasses := sub, abstract := ab, collection := col, hasDel := false } := by unfold clsIn; rw [hC] <;> rfl
  have X : K.In s.heap := M.kin.keeps bk
  obtain ⟨hp, g, d, t, os⟩ := s
  refine ks_codeAny_call_defAt (fd := ksFn "__init__" qq (xA a1 a2 f) (xB p0 p1 p2 p3 p4 p5 q1 q2 q3 q4 m f j) (xS f) .none .none doc pm an (.ref cda) ct cc) (body := xB p0 p1 p2 p3 p4 p5 q1 q2 q3 q4 m f j) (binds := [("self", .ref x), (f, v)]) hroom (X _ _ ho) rfl (M.nolimit.keeps bk) (codeRec_of X hcd) rfl (BindsTo.of_eq ?bd) T.nocell ?loc (fun h₁ hns k₁ => ?_) rfl rfl rfl
  case bd => exact T.bd _ _ _ _ _ _ _ _ _ _ _ _
  case loc =>
    intro y hy
    rcases List.mem_cons.mp hy with rfl | hy
    · rfl
    · have : y = (f, v) := by simpa using hy
      rw [this]
      exact T.fs
  have X₁ : K.In h₁ := X.keeps k₁
  have bk₁ : ∀ b o, base.get? b = some o → h₁.get? b = some o := fun b o e => k₁ b o (bk b o e)
  have hx₁ := k₁ _ _ hx
  obtain ⟨cl0, cld, csl, hcell⟩ := T.cell
  obtain ⟨ccl, cdd, vs, ccs, file, tf, hcode, hvs, hfile⟩ := T.code
  obtain ⟨mb, hmb, hmb2⟩ := M.blt
  obtain ⟨oD, hD1, hD2⟩ : ∃ oD, h₁.get? C = some oD ∧ oD.data = .cls { name := nm', bases := bs, mro := .ref C :: bm, ns := N, qualname := q, hasDict := true, slotNames := sn, subclasses := sub, abstract := ab, collection := col, hasDel := false } := ⟨_, X₁ _ _ hC, rfl⟩
  have LK : (fun y => List.lookup y [(f, v), (("self" : Str), Value.ref x)]) = fun y => List.lookup y (List.reverse [(("self" : Str), Value.ref x), (f, v)]) := rfl
  have lself : List.lookup ("self" : Str) (List.reverse [(("self" : Str), Value.ref x), (f, v)]) = some (.ref x) := by
    show List.lookup ("self" : Str) [(f, v), (("self" : Str), Value.ref x)] = _
    have e : (("self" : Str) == f) = false := by simpa using fun z : ("self" : Str) = f => T.fself z.symm
    simp [List.lookup, e]
  have lf : List.lookup f (List.reverse [(("self" : Str), Value.ref x), (f, v)]) = some v := by
    show List.lookup f [(f, v), (("self" : Str), Value.ref x)] = _
    simp [List.lookup]
  refine ks_wpAt_execs_cons (ks_wpAt_Expr_any (ks_wpAt_MethodCall ?_ (hev _)) rfl rfl)
  refine ks_wpAt_super_base (f := fI) (cc := cda) (fd := ksFn "__init__" qq (xA a1 a2 f) (xB p0 p1 p2 p3 p4 p5 q1 q2 q3 q4 m f j) (xS f) .none .none doc pm an (.ref cda) ct cc) (ar := { arg := "self", annotation := none, pos := a1 }) T.fsup T.fcls (by decide +kernel) rfl (X₁ _ _ ho) rfl rfl rfl (X₁ _ _ hcode) rfl hvs hfile T.top ?_
  refine ks_loadName_global rfl T.fsup (Calls.loadGlobal_builtin (M.glob.keeps bk₁) T.mgs (hmb.keeps bk₁) ((hmb2 _ (by decide +kernel)).trans PyProof.Rows.Boot.«super») ⟨rfl, ?_⟩)
  refine wpAny_loadName_free (c := cc) rfl T.fcls rfl ⟨_, X₁ _ _ hcell, rfl⟩ ?_
  refine wpAny_loadName_local rfl rfl hns lself ?_
  refine ks_wpAny_isType_cls hD1 hD2 ⟨rfl, ?_⟩
  refine ks_wpAny_call_super hD1 hD2 hx₁ rfl (fun c e => by cases e) (looks_mroIn X₁ T.mro) (fun h₂ e₂ k₂ => ?_)
  have X₂ : K.In h₂ := X₁.keeps k₂
  have hx₂ := k₂ _ _ hx₁
  have I₂ : InstAt h₂ x (excO C t0) C none := ⟨hx₂, rfl, rfl, trivial⟩
  have hsup : alongIn K "__init__" (((Value.ref C :: bm).dropWhile (· != .ref C)).drop 1) = some (some (.builtin "ValueError.__init__")) := by
    have := T.sup
    unfold ks_superIn at this
    rw [hcl] at this
    exact this
  have hmro : Looks (model prog w) h₂ (mroOf (.ref C)) (.ref C :: bm) := (looks_clsIn X₂ hcl).andThen .now
  refine kxs_getMethod kxs_ValueError e₂ (looks_opaque X₂ T.stat) hmro rfl X₂ hsup (I₂.type.andThen (looks_subIn X₂ T.subVE)) (ks_ne X₂ I₂ hcl) (by decide +kernel) ?_
  have hu₃ : (h₂.push (kxs_mw "ValueError.__init__" x)).get? h₂.objs.size = some (kxs_mw "ValueError.__init__" x) := Heap.get?_push_at rfl rfl
  have k₃ : ∀ b o, h₂.get? b = some o → (h₂.push (kxs_mw "ValueError.__init__" x)).get? b = some o := fun b o e => Heap.get?_push_of_some _ e
  refine kxs_callWith (i := "ValueError.__init__") (x := x) (by rfl) ?_
  refine evalArgs_plain ?_
  show wpAny _ _ (spliced ((false, eval (.Constant (.str m) j p3) _) :: [])) _ _ _
  refine Calls.spliced_cons (Calls.Constant_str (Calls.spliced_nil ⟨hu₃, ?_⟩))
  have sz1 : [Value.str m (t + [(("self" : Str), Value.ref x), (f, v)].length + 1)].length ≤ sizeLine := by
    rw [sizeLine_eq]
    exact (by decide : 1 ≤ 16777216)
  refine call_mw (k₃ _ _ (X₂ _ _ hC)) (k₃ _ _ hx₂) hu₃ sz1 (fun h₄ t1 k₄ hx₄ => ?_)
  have old : ∀ b o, b ≠ x → h₁.get? b = some o → h₄.get? b = some o := fun b o ne e => k₄ b o ne (k₃ b o (k₂ b o e))
  have hxL : hp.objs.size ≠ x := Nat.ne_of_gt (Heap.lt_size hx)
  have hn₄ : h₄.Ns hp.objs.size (fun y => List.lookup y (List.reverse [(("self" : Str), Value.ref x), (f, v)])) := hns.at fun o q => old _ o hxL q
  have xnK : K.lookup x = none := by
    cases e : K.lookup x with
    | none => rfl
    | some o =>
      have z : base.get? x = some o := M.kin _ _ e
      have := hnb
      rw [this] at z
      cases z
  have X₄ : K.In h₄ := fun b o e => old b o (fun z => by rw [z, xnK] at e; cases e) (X₁ b o e)
  refine wpAt_of_wpAny ?_
  refine wpAny_execs_cons (plainObj_wpAny_Assign_Attribute ?_)
  refine wpAny_Name (wpAny_loadName_local rfl T.fs hn₄ lf (wpAny_Name (wpAny_loadName_local rfl rfl hn₄ lself ?_) (by decide))) T.fd
  refine set_plain X₄ (ox := excO C t1) (od := none) ⟨hx₄, rfl, rfl, trivial⟩ T.sa ?_
  refine exc_osa X₄ hx₄ hcl (show refsVE (.ref C :: bm) = true from hbm) rfl T.noN (fun h₅ tk₅ dx k₅ dn dne hx₅ hn₅ => ?_)
  refine wpAny_execs_nil (hq h₅ tk₅ dx t1 ⟨fun b o hb e => k₅ b o hb (old b o hb (k₁ b o e)), hx₅, ?_, dne, hn₅⟩)
  have z : hp.objs.size < h₄.objs.size := hn₄.lt
  exact Nat.le_of_lt (Nat.lt_of_lt_of_le z dn)
/-- a made one -/
structure OwnMade (f : Str) (h h' : Heap) (e C d : Addr) (v : Value) : Prop where
  keep : ∀ b o, h.get? b = some o → h'.get? b = some o
  new : h.objs.size ≤ e
  obj : ∃ oe vs, h'.get? e = some oe ∧ oe.cls = .ref C ∧ oe.dict = some d ∧ oe.data = .fields vs ∧ vs[1]? = some .none
  dbig : h.objs.size ≤ d
  dne : d ≠ e
  ns : h'.Ns1 d (fun y => if y = f then some v else none)
theorem own_made (T : XTxt prog K mg nm f C fI cc cda) (M : L2.Mod K mg base) (bk : ∀ b o, base.get? b = some o → s.heap.get? b = some o) {v : Value} (hroom : A.depth + 1 < recursionLimit)
    (hq : ∀ h' tk e d, OwnMade f s.heap h' e C d v → R (.ok (.ret (.ref e))) { s with heap := h', toks := tk }) :
    codeAny (model prog w) A (.call (.ref C) ⟨[v], []⟩) R s := by
  obtain ⟨nm', q, N, bs, bm, sn, sub, ab, col, dd, k0, k1, k2, k3, k5, hC, hbm⟩ := T.cls
  have X : K.In s.heap := M.kin.keeps bk
  obtain ⟨hp, g, d, tk, os⟩ := s
  have k : ∀ b o, hp.get? b = some o → ((hp.push (kdv_tup [v])).push (excO C hp.objs.size)).get? b = some o := fun b o e => Heap.get?_push_of_some _ (Heap.get?_push_of_some _ e)
  have hget : ((hp.push (kdv_tup [v])).push (excO C hp.objs.size)).get? (hp.objs.size + 1) = some (excO C hp.objs.size) := by heap_get
  have hnb : base.get? (hp.objs.size + 1) = none := by
    cases e : base.get? (hp.objs.size + 1) with
    | none => rfl
    | some o =>
      have z := Heap.lt_size (bk _ _ e)
      exact absurd (Nat.lt_of_succ_lt z) (Nat.lt_irrefl _)
  have one : [v].length ≤ sizeLine := by
    rw [sizeLine_eq]
    exact (by decide : 1 ≤ 16777216)
  refine call_own F.excBase_ValueError (fun X => refsVE_contains X bm hbm) (X _ _ hC) (looks_findIn X T.iC) (fun self => bind_fn X self T.tC) one ?_
  refine own_init (s := ⟨(hp.push (kdv_tup [v])).push (excO C hp.objs.size), g, d, tk, os⟩) T M (fun b o e => k b o (bk b o e)) hget hnb ?_ fun h' tk' dx t1 ⟨k', hx, dn, dne, hns⟩ => ?_
  · show A.depth + 1 < recursionLimit
    exact hroom
  · have old : ∀ b o, hp.get? b = some o → h'.get? b = some o := fun b o e => k' b o (Nat.ne_of_lt (Nat.lt_succ_of_lt (Heap.lt_size e))) (k b o e)
    have z : hp.objs.size + 1 + 1 ≤ dx := by
      first
        | (simpa only [Heap.size_push] using dn)
        | exact dn
        | (have q := dn; rw [Heap.size_push, Heap.size_push] at q; exact q)
    exact ⟨rfl, hq h' tk' (hp.objs.size + 1) dx ⟨old, Nat.le_succ _, ⟨_, _, hx, rfl, rfl, rfl, rfl⟩, Nat.le_trans (Nat.le_trans (Nat.le_succ _) (Nat.le_succ _)) z, dne, hns⟩⟩
end
end Xm
namespace L2
open PySem PySem.Spec PyProof.Rows
theorem relO_one {f : Str} {v : V} {v' : Value} (r : RelV v v') (g : Str) : RelO (List.lookup g [(f, v)]) (if g = f then some v' else none) := by
  by_cases hw : g = f
  · subst hw
    rw [if_pos rfl]
    have q : List.lookup g [(g, v)] = some v := by simp [List.lookup]
    rw [q]
    exact r
  · rw [if_neg hw]
    have qw : (g == f) = false := by simpa using hw
    have q2 : List.lookup g [(f, v)] = none := by simp [List.lookup, qw]
    rw [q2]
    trivial
section
variable {X : Cx} {C fI cc cda : Addr} {nm f : Str}
/-- nm(e) -/
def tMk1 (C : Addr) (f : Str) (ta : TA) : St → Hp → XK → Prop := fun σ H Q => ta σ H fun vs H1 => ∃ v, vs = [v] ∧ ∀ d, H1 d = none → Q (.ref C) (some d) (upd H1 d (.xd [(f, v)]))
theorem pmk_1 {a : Expr} {ta : TA} {p pos : Pos} {k : Nat} (T : Xm.XTxt X.prog X.K X.mg nm f C fI cc cda) (hr : Room (k + 1) X.A) (ha : PA X [a] ta) (hg : Gl X nm) (hdb : (nm == ("__debug__" : Str)) = false)
    (he : starEach (a :: []) X.env = (false, eval a X.env) :: starEach [] X.env := by rfl) (hpl : (backTo pos (starEach [] X.env)).any (·.1) = false := by rfl) :
    PMk X (.Call (.Name nm p) [a] [] pos) (tMk1 C f ta) := by
  intro pins s σ H Q I h
  refine wpAny_Call_Name_kw (ld_glob I hg T.gC ?_ hdb)
  refine PySem.W.callWith_K (h₀ := X.base) I.ok.mod.kin T.kC (thn (ha.run pos pins s σ H _ I h) fun us s1 hh => ?_) he hpl
  obtain ⟨vs, H1, I1, r1, v, ev, q1⟩ := hh
  subst ev
  refine ⟨I1.kIn, ?_⟩
  cases r1 with
  | cons rv rn =>
    rename_i v' us'
    cases rn
    show wpAny _ _ (call (.ref C) [v']) _ _ _
    have bk := I1.bk
    obtain ⟨hp, g, dr, tk, os⟩ := s1
    refine wpAny_call (Xm.own_made T I1.ok.mod bk (by have := hr.dp; omega) fun h' tk' e d M => ?_)
    show MkP X pins σ Q (.ref e) ⟨h', g, dr, tk', os⟩
    obtain ⟨oe, fv, hoe, hc, hd, hdat, h1⟩ := M.obj
    have hns := M.ns
    obtain ⟨G', g1, g2⟩ := restrict h' fun b => decide (b ≠ e)
    have gk : ∀ b, b ≠ e → G'.get? b = h'.get? b := fun b hb => g1 b (decide_eq_true hb)
    have ge : G'.get? e = none := g2 e (by simp)
    have old : ∀ b o, hp.get? b = some o → G'.get? b = some o := fun b o q => (gk b (Nat.ne_of_lt (Nat.lt_of_lt_of_le (Heap.lt_size q) M.new))).trans (M.keep b o q)
    have ob : ObjOk X.prog X.w (upd H1 d (.xd [(f, v)])) G' d (.xd [(f, v)]) :=
      ⟨_, hns.at (fun o q => (gk d M.dne).trans q), fun f' => relO_one rv f'⟩
    have J : Inv X pins σ (upd H1 d (.xd [(f, v)])) ⟨G', g, dr, tk', os⟩ := I1.laid (t' := tk') old M.dbig ob
    refine ⟨e, oe, fv, ⟨G', g, dr, tk', os⟩, _, .ref C, some d, rfl, J, fun b o q => ?_, ge, hoe, ⟨hc, hd⟩, hdat, h1, ?_, rfl, I1.bare, raises_own T.exC T.tyC, q1 d (I1.hok.fresh M.dbig)⟩
    · by_cases hb : b = e
      · have q' : G'.get? b = some o := q
        rw [hb, ge] at q'; cases q'
      · exact (gk b hb).symm.trans q
    · rw [upd_ne (Ne.symm M.dne)]
      exact I1.hok.fresh M.new
end
end L2

/-! Dn22: raise, defs that raise, their calls, try. -/
namespace Dn
open PySem PySem.Spec L2 RZ PySem.W
/-- what a def makes of data: the arguments, what is wanted of the answer, of an exception -/
abbrev SgX := List D → (O → Prop) → (Xn → Prop) → Prop
def spX (K : PySem.W.Frag) (mg : Str → Option Value) (n : Nat) (S : SgX) : Sp := fun vs H Q E => ∃ B ds P Y, vs.length = n ∧ Le B H ∧ DqL K B vs ds ∧ S ds P Y ∧
  (∀ v o f B' H', Gr NoM B H B' H' → Le B' H' → P o → OR K B' H' v o f → (∀ a ∈ f, H a = none) → Q v H') ∧ ∀ cls d x B' H', Gr NoM B H B' H' → Le B' H' → Y x → XR K mg B' cls d x → E cls d H'
/-- the exceptions are the layer's own -/
def Wd.xs (W : Wd) : Prop := W.CX = L2.CX W.P W.w
/-- the class nm, whose instances bear the field f -/
def XCls (W : Wd) (nm f : Str) : Prop := ∃ C fI cc cda, Xm.XTxt W.P W.K W.mg nm f C fI cc cda ∧ XfC W.K C ∧ exmOne W.K (.ref C) (.ref C) = some true
section
variable {W : Wd} {X : Cx} {bx : Bx} {Γ : List Slot} {a b c e : Expr} {pos : Pos} {E : En} {R : O → Prop} {P : D → Prop} {Y : Xn → Prop}
theorem ws_raise (hb : Bc W X bx) {nm f : Str} {p pos2 : Pos} (T : XCls W nm f) (h : PP X a Γ fun d => E.ex Γ (nm, [(f, d)])) (hk : 1 ≤ bx.k := by decide) (hg : bx.sc.names.lookup nm = some .globalImplicit := by rfl) (hdb : (nm == ("__debug__" : Str)) = false := by decide)
    (he : starEach (a :: []) X.env = (false, eval a X.env) :: starEach [] X.env := by rfl) (hpl : (backTo pos (starEach [] X.env)).any (·.1) = false := by rfl) : WS X (.Raise (some (.Call (.Name nm p) [a] [] pos)) none pos2) Γ E := fun en σ B H D rp eo => by
  obtain ⟨C, fI, cc, cda, T1, T2, T3⟩ := T
  obtain ⟨Wx, tk, hx⟩ := eo.ex
  have T' : Xm.XTxt X.prog X.K X.mg nm f C fI cc cda := by rw [hb.prog, hb.kk, hb.mo]; exact T1
  refine ⟨_, ps_raise hb.calm tk (pmk_1 (k := 0) T' (hb.room.mono hk) (pa_cons (be X a) pa_nil he) (by show X.env.scope.names.lookup nm = _; rw [hb.sco]; exact hg) hdb he hpl), h en σ B H rp _ fun v d B1 H1 g p m => ⟨v, rfl, fun dd nd => ?_⟩⟩
  have g2 : Gr NoM B1 H1 (upd B1 dd (.xd [(f, v)])) (upd H1 dd (.xd [(f, v)])) := Gr.newB g.le nd
  refine hx _ _ σ Γ (.ref C) (some dd) (nm, [(f, d)]) (g.gr.b.tr g2.b) ((g.rp rp).step g2 (g.le.newB nd)) ⟨C, dd, _, rfl, T'.gC, rfl, upd_same, rfl, ?_⟩ p
  exact .cons (m.up g2.b.le) .nil
/-! ### defs that raise -/
theorem gn_ofX {x qual : Str} {st : Stmt} {f : Addr} {fd : FuncData} {N ps : List Str} {k : Nat} {sp : Sp} (hc : W.calm) (hx : W.xs) (F : Fun W.K x qual st f fd) (Sc : FnScope N ps (defScope st)) (len : ∀ vs H Q E, sp vs H Q E → vs.length = ps.length)
    (go : ∀ X, Bc W X ⟨k, N, defScope st, fun _ => true⟩ → Own X → ∀ vs H Q E, sp vs H Q E → Takes X (fun cls d _ H => E cls d H) → bSs X (defBody st) { nx := fun _ H' => Q .non H', rt := Q } (L2.start N vs) H) : Gn W (k + 1) f fd ps sp := by
  obtain ⟨oc, od, kV, doc, pm, an, cdv, ct, osl, rfl, lk, hcd⟩ := F.ex
  refine ⟨len, fun A outer s0 H ar us vs Q E hr hg e0 hb r hsp => ?_⟩
  have hl := len _ _ _ _ hsp
  have inK : W.K.In s0.heap := e0.mod.kin.keeps fun b o e => (e0.bs b o e).1
  have nolim : s0.heap.NoLimit := e0.mod.nolimit.keeps fun b o e => (e0.bs b o e).1
  have kinds : ∀ y ∈ ps.zip us, (defScope st).names.lookup y.1 = some .local ∨ ((defScope st).names.lookup y.1 = some .cell ∧ ((cellsFrom (s0.heap.objs.size + 1) (defScope st).names []).lookup y.1).isSome = true) := fun ⟨n, v⟩ hy => by
    rcases Sc.par n (List.of_mem_zip hy).1 with q | q
    · exact .inl q
    · exact .inr ⟨q, PySem.W.cellsFrom_some _ _ _ (.inl q)⟩
  refine codeAny_call_function hr.depth (inK _ _ lk) rfl Sc.co Sc.gen rfl (PySem.W.codeRec_of inK hcd) (hb _ _ _ _ ?_)
  refine wpAny_newFunctionEnv_cells Sc.kind kinds fun env he s1 xx => ?_
  subst he
  refine ⟨nolim.keeps xx.toInCall.keep, codeAny_func ?_⟩
  have bc : Bc W (cxOf W.CX W.P W.w W.K W.mg W.base N qual (defScope st) f cdv A outer s0 H E) ⟨k, N, defScope st, fun _ => true⟩ :=
    ⟨rfl, rfl, rfl, rfl, rfl, rfl, Sc.nd, rfl, rfl, rfl, hr.deeper _, hg, fun _ _ _ _ _ _ _ h => (hc _ _ _ _ _ h).elim⟩
  have tk : Takes (cxOf W.CX W.P W.w W.K W.mg W.base N qual (defScope st) f cdv A outer s0 H E) (fun cls d _ H => E cls d H) := by
    unfold Wd.xs at hx
    rw [hx]
    exact takes_of rfl rfl rfl rfl
  obtain ⟨t, ht, hq⟩ := go _ bc ⟨passes_of rfl, rfl, rfl⟩ vs H Q E hsp tk
  have I0 : Inv (cxOf W.CX W.P W.w W.K W.mg W.base N qual (defScope st) f cdv A outer s0 H E) [] (L2.start N vs) H s1 := inv_start Sc hr.hd e0 hl r xx
  refine wpAny_mono (ht.run [] s1 (L2.start N vs) H _ I0 hq) (fun fl s2 hs => ?_) fun er s2 hs => hs
  have fin : ∀ {σ' : St} {H' : Hp} {v : V} {u : Value}, Inv (cxOf W.CX W.P W.w W.K W.mg W.base N qual (defScope st) f cdv A outer s0 H E) [] σ' H' s2 → RelV v u → Q v H' → CE outer W.P W.w H s0 Q u s2 :=
    fun {σ' H' v u} J rv q => ⟨v, H', J.os, J.bare, J.base, J.hok, rv, q⟩
  match fl, hs with
  | .ret u, hs =>
    obtain ⟨v, σ', H', J, rv, q⟩ := hs
    exact fin J rv q
  | .next, hs =>
    obtain ⟨σ', H', J, q⟩ := hs
    exact fin (v := V.non) (u := Value.none) J rfl q
  | .brk, hs =>
    obtain ⟨_, _, _, q⟩ := hs
    exact q.elim
  | .cont, hs =>
    obtain ⟨_, _, _, q⟩ := hs
    exact q.elim
theorem Df.mkX {x qual : Str} {st : Stmt} {f : Addr} {fd : FuncData} {N ps : List Str} {k n : Nat} {S : SgX} (hc : W.calm) (hx : W.xs) (F : Fun W.K x qual st f fd) (hm : W.mg x = some (.ref f)) (Sc : FnScope N ps (defScope st)) (hn : ps.length = n) (bn : Binds W.K fd ps [])
    (go : ∀ X, Bc W X ⟨k, N, defScope st, fun _ => true⟩ → Own X → ∀ ds R Y, ds.length = n → S ds R Y → WSs X (defBody st) (begin0 N n (ds.map Slot.v)) { nx := fun _ => R (.val .non), rt := R, ex := fun _ => Y }) : Df W (k + 1) x (spX W.K W.mg n S) := by
  refine ⟨f, fd, ps, gn_ofX hc hx F Sc (fun vs H Q E h => ?_) fun X hb ho vs H Q E h tk => ?_, hm, F.kp, bn⟩
  · obtain ⟨_, _, _, _, h1, _⟩ := h
    exact h1.trans hn.symm
  · obtain ⟨B, ds, R, Y, hl, le, m, hS, q, qx⟩ := h
    have hN : vs.length ≤ N.length := by
      have := congrArg List.length Sc.pre
      rw [List.length_take] at this
      omega
    have rp := rp_begin (M := NoM) le m hN
    rw [hl] at rp
    rw [← hb.kk] at rp q qx
    rw [← hb.mo] at qx
    refine go X hb ho ds R Y (m.length.symm.trans hl) hS _ _ B H _ rp ⟨fun B' H' σ' Γ' s r z => ?_, fun _ _ _ _ _ _ z => z.elim, fun _ _ _ _ _ _ z => z.elim, fun v o f B' H' s g l w k z ro nf => ?_, _, tk, fun B' H' σ' Γ' cls d x s r xr y => qx cls d x B' H' r.gr r.le y xr⟩
    · exact q .non (.val .non) [] B' H' r.gr r.le z (.val .non) fun _ z => nomatch z
    · exact q v o f B' H' g l z ro nf
/-! ### calls that may raise -/
def POX (X : Cx) (e : Expr) (Γ : List Slot) (P : O → Prop) (Y : Xn → Prop) : Prop := ∀ en σ B H, Rp X.K en B H σ Γ → ∀ (Q : VK) (Wx : WX), Takes X Wx → (∀ v o f B' H', Go X.K en B H B' H' → P o → OR X.K B' H' v o f → (∀ a ∈ f, H a = none) → Q v H') →
  (∀ cls d x B' H', Go X.K en B H B' H' → XR X.K X.mg B' cls d x → Y x → Wx cls d σ H') → bE X e σ H Q
theorem POX.imp {P' : O → Prop} {Y' : Xn → Prop} (h : POX X e Γ R Y) (k : ∀ d, R d → P' d) (l : ∀ x, Y x → Y' x) : POX X e Γ P' Y' := fun en σ B H r Q Wx tk q qx => h en σ B H r Q Wx tk (fun v d f B' H' g p m n => q v d f B' H' g (k d p) m n) fun cls d x B' H' g xr y => qx cls d x B' H' g xr (l x y)
theorem gn_runX (hb : Bc W X bx) (hx : W.xs) {k : Nat} {f : Addr} {fd : FuncData} {ps : List Str} {sp : Sp} (F : Gn W k f fd ps sp) (hk : k ≤ bx.k) (bn : Binds W.K fd ps []) {pins : List (Addr × Obj)} {st : Shared} {Q : VK} {us : List Value} {vs : List V} {σ : St} {H : Hp} {Wx : WX} (tk : Takes X Wx)
    (I : Inv X pins σ H st) (r : Vals vs us) (h : sp vs H Q fun cls d H' => Wx cls d σ H') : wpAny (model X.prog X.w) X.A (call (.ref f) us) (EP X pins σ Q) X.xe st := by
  have e0 := I.env0
  rw [hb.prog, hb.wo, hb.kk, hb.mo, hb.bas] at e0
  have hl : (us ++ []).length = ps.length := by
    rw [List.append_nil, ← r.length]
    exact F.lenOk _ _ _ _ h
  have kin : W.K.In st.heap := by rw [← hb.kk]; exact I.kIn
  have go := F.runs X.A X.stack st H ⟨us, []⟩ us vs Q (fun cls d H' => Wx cls d σ H') (hb.room.mono hk) hb.gd e0 (by
    have := bn st us kin hl
    rw [List.append_nil] at this
    exact this) r h
  have hx' : W.CX = L2.CX X.prog X.w := by rw [hb.prog, hb.wo]; exact hx
  rw [← hb.prog, ← hb.wo] at go
  refine wpAny_call (codeAny_mono go fun res s2 hq => ?_)
  match res, hq with
  | .error er, hq =>
    have hq' : L2.CX X.prog X.w X.stack H st (fun cls d H' => Wx cls d σ H') er s2 := by rw [← hx']; exact hq
    exact tk er s2 (XE.of_call I (fun _ _ _ h => h) hq')
  | .ok (.ret u), hq => exact I.after hq
  | .ok .next, hq => exact hq.elim
  | .ok .brk, hq => exact hq.elim
  | .ok .cont, hq => exact hq.elim
theorem pox_call (hb : Bc W X bx) (hx : W.xs) {k n : Nat} {x : Str} {S : SgX} {p : Pos} {es : List Expr} (F : Df W k x (spX W.K W.mg n S)) (h : PL X (e :: es) Γ fun ds => ds.length = n ∧ S ds R Y) (hk : k ≤ bx.k := by decide) (hg : bx.sc.names.lookup x = some .globalImplicit := by rfl)
    (hdb : (x == ("__debug__" : Str)) = false := by decide) (he : starEach (e :: es) X.env = (false, eval e X.env) :: starEach es X.env := by rfl) (hpl : (backTo pos (starEach es X.env)).any (·.1) = false := by rfl) : POX X (.Call (.Name x p) (e :: es) [] pos) Γ R Y := fun en σ B H rp Q Wx tk q qx => by
  obtain ⟨f, fd, ps, G, hm, kp, bn⟩ := F
  refine ⟨fun σ' H' Q' => bA X (e :: es) σ' H' fun vs H1 => spX W.K W.mg n S vs H1 Q' fun cls d H2 => Wx cls d σ' H2, ⟨fun pins st σ' H' Q' I z => ?_⟩, ?_⟩
  · refine wpAny_Call_Name_kw (ld_glob I (by show X.env.scope.names.lookup x = _; rw [hb.sco]; exact hg) (by rw [hb.mo]; exact hm) ?_ hdb)
    refine PySem.W.callWith_K (h₀ := X.base) I.ok.mod.kin (by rw [hb.kk]; exact kp) (thn ((ba X (e :: es)).run pos pins st σ' H' _ I z) fun us s1 ⟨vs, H1, I1, r, q1⟩ => ⟨I1.kIn, ?_⟩) he hpl
    exact gn_runX hb hx G hk bn tk I1 r q1
  · refine h en σ B H rp _ fun vs ds B1 H1 g1 ⟨hl, hS⟩ m => ⟨B1, ds, R, Y, m.length.trans hl, g1.le, by rw [← hb.kk]; exact m, hS, fun v o f B2 H2 gr le po ro nf => ?_, fun cls d x B2 H2 gr le y xr => ?_⟩
    · rw [← hb.kk] at ro
      refine q v o f B2 H2 (g1.tr (.of (g1.rp rp) gr le)) po ro fun a ha => ?_
      cases z : H a with
      | none => rfl
      | some u => exact absurd (nf a ha) (g1.gr.p a (by rw [z]; simp))
    · rw [← hb.kk, ← hb.mo] at xr
      exact qx cls d x B2 H2 (g1.tr (.of (g1.rp rp) gr le)) xr y
theorem ws_dropX (h : POX X e Γ (fun _ => E.nx Γ) (E.ex Γ)) (hs : swapsWith e none pos.line X.env = pure false := by rfl) : WS X (.Expr e pos) Γ E := fun en σ B H D rp eo => by
  obtain ⟨Wx, tk, hx⟩ := eo.ex
  exact ⟨_, ps_expr (be X e) hs, h en σ B H rp _ Wx tk (fun v o f B' H' g p m n => eo.nx B' H' σ Γ g.gr.b (g.rp rp) p) fun cls d x B' H' g xr y => hx B' H' σ Γ cls d x g.gr.b (g.rp rp) xr y⟩
theorem ws_retX (h : POX X e Γ E.rt (E.ex Γ)) : WS X (.Return (some e) pos) Γ E := fun en σ B H D rp eo => by
  obtain ⟨Wx, tk, hx⟩ := eo.ex
  exact ⟨_, ps_ret (be X e), h en σ B H rp _ Wx tk (fun v o f B' H' g p m n => eo.rt v o f B' H' g.gr.b (rp.gr.tr g.gr) g.le g.bw (g.rp rp).lks p m fun x hx => by
    cases z : en.H x with
    | none => rfl
    | some u => exact absurd (n x hx) (rp.gr.p x (by rw [z]; simp))) fun cls d x B' H' g xr y => hx B' H' σ Γ cls d x g.gr.b (g.rp rp) xr y⟩
/-! ### try: .. except x as n: .. -/
/-- the suite, an exception y in the slot i -/
def SU (X : Cx) (i : Nat) (suite : List Stmt) (Γ : List Slot) (y : Xn) (E : En) : Prop := ∀ en σ B H D (a : Addr) oe pn cls d, Rp X.K en B H σ Γ → XR X.K X.mg B cls d y → H a = none → Zc cls d oe → (∃ vs, oe.data = .fields vs) → EnOk X en B E D →
  bSs (X.suite a ((a, oe) :: pn)) suite { nx := fun σ' H' => D.nx (σ'.set i none) H', rt := D.rt, bk := fun σ' H' => D.bk (σ'.set i none) H', ct := fun σ' H' => D.ct (σ'.set i none) H' } (σ.set i (some (.ref a))) H
theorem Bc.try_ (hb : Bc W X bx) (hc : W.calm) {pn : List (Addr × Obj)} {xe : Value → Shared → Prop} : Bc W (X.tr pn xe) bx :=
  ⟨hb.prog, hb.wo, hb.kk, hb.mo, hb.bas, hb.nn, hb.nd, hb.sco, hb.fno, hb.calm, hb.room, hb.gd, fun _ _ _ _ _ _ _ h => (hc _ _ _ _ _ h).elim⟩
theorem ws_try (hb : Bc W X bx) (hc : W.calm) (ho : Own X) (i : Nat) {x n : Str} {C : Addr} {np pos' : Pos} {b₀ : Stmt} {body suite : List Stmt} (hC : W.mg x = some (.ref C)) (Sub : Str → Bool → Prop) (hS : ∀ c C' b, Sub c b → W.mg c = some (.ref C') → exmOne W.K (.ref C') (.ref C) = some b)
    (h : ∀ X', Bc W X' bx → Own X' → WSs X' body Γ { E with ex := fun Γ' y => ∃ b, Sub y.1 b ∧ if b = true then SU X i (b₀ :: suite) Γ' y E else E.ex Γ' y }) (hN : bx.N[i]? = some n := by rfl) (hln : bx.sc.names.lookup n = some .local := by rfl) (hg : bx.sc.names.lookup x = some .globalImplicit := by rfl) (hdb : (x == ("__debug__" : Str)) = false := by decide) :
    WS X (.Try body [.ExceptHandler (some (.Name x np)) (some n) (b₀ :: suite) pos'] [] [] pos) Γ E := fun en σ B H D rp eo => by
  obtain ⟨Wo, tko, hxo⟩ := id eo.ex
  refine ⟨_, ps_try_as (i := i) (c := .ref C) (Wout := Wo) (tb := fun Wx D σ H => ∀ pn xe, Takes (X.tr pn xe) Wx → PassesOwn (model X.prog X.w) X.A X.env xe → bSs (X.tr pn xe) body D σ H)
    (ts := fun a cls d D σ H => ∀ oe pn, Zc cls d oe → (∃ vs, oe.data = .fields vs) → bSs (X.suite a ((a, oe) :: pn)) (b₀ :: suite) D σ H) ho.2.1 ho.2.2 (by rw [hb.nn]; exact hb.nd) (by rw [hb.nn]; exact hN) (by show X.env.scope.names.lookup n = _; rw [hb.sco]; exact hln)
    ⟨by show X.env.scope.names.lookup x = _; rw [hb.sco]; exact hg, hdb, .inl (by rw [hb.mo]; exact hC)⟩ tko (fun Wx pn xe tk po => ⟨fun pins s σ H D I z => (bss _ body).run pins s σ H D I (z pn xe tk po)⟩) (fun a oe cls d pn hz hf => ⟨fun pins s σ H D I z => (bss _ (b₀ :: suite)).run pins s σ H D I (z oe pn hz hf)⟩), fun pn xe tk po => ?_⟩
  refine h (X.tr pn xe) (hb.try_ hc) ⟨po, ho.2.1, ho.2.2⟩ en σ B H D rp ⟨eo.nx, eo.bk, eo.ct, eo.rt, _, tk, fun B' H' σ' Γ' cls d y s r xr ⟨b, hb1, hb2⟩ => ?_⟩
  obtain ⟨C', dd, fs, e1, e2, e3⟩ := id xr
  have e2' : X.mg y.1 = some (.ref C') := e2
  refine ⟨b, ?_, fun eb a na oe pn hz hf => ?_, fun eb => ?_⟩
  · rw [e1]
    have := hS y.1 C' b hb1 (by rw [← hb.mo]; exact e2')
    rw [← hb.kk] at this
    exact this
  · subst eb
    rw [if_pos rfl] at hb2
    exact hb2 en σ' B' H' D a oe pn cls d r xr na hz hf (eo.up s)
  · subst eb
    rw [if_neg Bool.false_ne_true] at hb2
    exact hxo B' H' σ' Γ' cls d y s r xr hb2
/-- return n.f == "text" -/
theorem su_retEq (hb : Bc W X bx) (i : Nat) {nm f n : Str} {t w : Str} {p1 p2 p3 p4 p5 : Pos} {j : Nat} (T : XCls W nm f) (h : E.rt (.val (.bl (decide (w = t))))) (hi : i < Γ.length) (hN : bx.N[i]? = some n := by rfl) (hln : Vis bx.sc n := by first | exact Or.inl rfl | exact Or.inr (Or.inl rfl) | exact Or.inr (Or.inr rfl)) (hd : (n == ("__debug__" : Str)) = false := by decide) (hcd : (n == ("__classdict__" : Str)) = false := by decide)
    (hbs : attributeBase (.Name n p1) f X.env (eval (.Name n p1) X.env) = eval (.Name n p1) X.env := by rfl) :
    SU X i [.Return (some (.Compare (.Attribute (.Name n p1) f p2) [.Eq] [.Constant (.str t) j p3] p4)) p5] Γ (nm, [(f, .str w)]) E := fun en σ B H D a oe pn cls d rp xr na hz hf eo => by
  obtain ⟨C, fI, cc, cda, T1, T2, T3⟩ := T
  obtain ⟨C', dd, fs, e1, e2, e3, e4, e5, e6⟩ := xr
  have hK := hb.kk
  rw [← hK] at T1 T2
  have eC : C' = C := by
    have z : W.mg nm = some (.ref C') := by rw [← hb.mo]; exact e2
    rw [T1.gC] at z
    cases z
    rfl
  subst eC
  obtain ⟨v, rfl, rfl⟩ : ∃ v, fs = [(f, v)] ∧ v = .str w := by
    cases fs with
    | nil => simp at e5
    | cons p fs =>
      obtain ⟨g, v⟩ := p
      cases fs with
      | nil =>
        have eg : g = f := by simpa using e5
        subst eg
        cases e6 with
        | cons q1 q2 =>
          cases q1
          exact ⟨_, rfl, rfl⟩
      | cons q fs => simp at e5
  refine ⟨_, pss_one (ps_ret (pe_cmpR (bop (X.suite a ((a, oe) :: pn)) (compareOp .Eq)) (pe_xf T2 T1.noN hz hf (pe_var (X := X.suite a ((a, oe) :: pn)) (by show X.N[i]? = _; rw [hb.nn]; exact hN) (by show Vis X.env.scope n; rw [hb.sco]; exact hln) hd hcd) hbs) pe_str (by first | exact nomark _ | with_unfolding_all rfl))), ?_⟩
  have hl : i < σ.length := by rw [rp.len]; exact hi
  refine ⟨.ref a, by rw [List.getElem?_set_self hl], rfl, e1, dd, [(f, V.str w)], V.str w, e3, ?_, by simp [List.lookup], ?_⟩
  · rcases rp.le _ _ e4 with z | ⟨_, _, z, _⟩
    · exact z
    · cases z
  · have := c_eqS (X := X.suite a ((a, oe) :: pn)) (i := w) (j := t) (T := fun k => k = decide (w = t)) rfl H (.str w) (.str t) (.str _) (.str _)
    refine this _ fun k ek => ?_
    subst ek
    exact eo.rt _ _ [] B H Sub.rfl' rp.gr rp.le rp.bw rp.lks h (.val (.bl _)) fun _ z => nomatch z
end
end Dn

/-! Dn23: the law is called: no object but the script is told of, and it is locked. -/
namespace Dn
open PySem PySem.Spec PyProof.Rows L2
section
variable {P : Program} {w : World} {K : PySem.W.Frag} {mg mb : Str → Option Value} {k : Nat} {fa a : Addr} {fd : FuncData} {ps : List Str} {sp : Sp} {s₁ : Shared} {vs : List Value} {ns : List Int}
abbrev scrO (vs : List Value) : Obj := { cls := .type "list", data := .seq vs.toArray }
/-- where the heap H tells of the script alone, locked, and base is the rest -/
theorem enter_at {base : Heap} {H : Hp} (bs : ∀ b o, base.get? b = some o → s₁.heap.get? b = some o ∧ H b = none) (sz : base.objs.size ≤ s₁.heap.objs.size) (M : Mod K mg base) (hok : HOk P w H s₁.heap) (frz : ∀ b u, H b = some u → ∃ xs, u = .frz (scrO vs) (.lst xs))
    (hg : s₁.gens = #[]) (G : Gn ⟨P, w, K, mg, base, L2.CX P w⟩ k fa fd ps sp) (hr : Room k callerA) (bind : ps.length = 1 → BindsTo s₁ fd ⟨[.ref a], []⟩ (ps.zip [.ref a])) (p : sp [.ref a] H (fun v _ => v = .bl true) fun _ _ _ => False) :
    codeAny (model P w) callerA (.call (.ref fa) ⟨[.ref a], []⟩) (fun r s' => r = .ok (.ret (.bool true)) ∧ OldK s₁.heap s'.heap ∧ s'.os = s₁.os ∧ AllBare s'.gens) s₁ := by
  have nil : ∀ b : Addr, b ∉ frs [] := fun b z => nomatch z
  have e0 : Env0 P w K mg base callerA [] s₁ H := { frames := rfl, mod := M, bs := bs, bsz := sz, funs := trivial, frf := fun b z => absurd z (nil b), hok := hok, bare := .of_eq hg }
  refine codeAny_mono (G.runs callerA [] s₁ H ⟨[.ref a], []⟩ [.ref a] [.ref a] _ _ hr rfl e0 (bind (G.lenOk _ _ _ _ p).symm) (.cons rfl .nil) p) fun r s' q => ?_
  match r, q with
  | .error _, q =>
    obtain ⟨_, _, _, _, _, _, _, _, _, _, _, _, z⟩ := (show L2.CX P w [] H s₁ (fun _ _ _ => False) _ s' from q)
    exact z.elim
  | .ok (.ret u), q =>
    obtain ⟨v, H', eos, bare, un, hok', ru, ev⟩ := (show CE [] P w H s₁ (fun v _ => v = .bl true) u s' from q)
    obtain rfl : v = .bl true := ev
    obtain rfl : u = Value.bool true := ru
    refine ⟨rfl, OldK.of_keep fun b o eb => ?_, eos, bare⟩
    cases hb : H b with
    | none => exact un.keep b o eb hb (nil b) (fun z => nomatch z)
    | some y =>
      obtain ⟨xs, rfl⟩ := frz b y hb
      have one := (hok b _ hb).1
      have two := (hok' b _ (un.frzs b _ _ hb)).1
      rw [one] at eb
      rw [two, eb]
  | .ok .next, q => exact False.elim q
  | .ok .brk, q => exact False.elim q
  | .ok .cont, q => exact False.elim q
theorem enter (KX : K.In s₁.heap) (hns : s₁.heap.Ns mainGlobals mg) (hb : s₁.heap.Ns builtinsNs mb) (hbb : ∀ x : Str, x ≠ "__name__" → mb x = bootBuiltins x) (hlim : s₁.heap.NoLimit) (hg : s₁.gens = #[])
    (ha : s₁.heap.get? a = some (scrO vs)) (hi : IntsAre vs ns) (hl : ns.length ≤ sizeLine) (hr : Room k callerA)
    (G : ∀ base : Heap, Mod K mg base → ∃ fd ps, Gn ⟨P, w, K, mg, base, L2.CX P w⟩ k fa fd ps sp ∧ (ps.length = 1 → BindsTo s₁ fd ⟨[.ref a], []⟩ (ps.zip [.ref a]))) (p : ∀ H : Hp, SqL K H a (ns.map V.int) → sp [.ref a] H (fun v _ => v = .bl true) fun _ _ _ => False) :
    codeAny (model P w) callerA (.call (.ref fa) ⟨[.ref a], []⟩) (fun r s' => r = .ok (.ret (.bool true)) ∧ OldK s₁.heap s'.heap ∧ s'.os = s₁.os ∧ AllBare s'.gens) s₁ := by
  have rv := vals_ints hi
  have sz : vs.length ≤ sizeLine := by rw [hi.length]; exact hl
  cases known : K.lookup a with
  | some o =>
    have same : o = scrO vs := Option.some.inj ((KX a o known).symm.trans ha)
    have M : Mod K mg s₁.heap := ⟨KX, hns, ⟨mb, hb, hbb⟩, hlim⟩
    subst same
    obtain ⟨fd, ps, g, bind⟩ := G _ M
    exact enter_at (base := s₁.heap) (H := fun _ => none) (vs := vs) (fun b o e => ⟨e, rfl⟩) (Nat.le_refl _) M (fun b u z => nomatch z) (fun b u z => nomatch z) hg g hr bind (p _ (.inr ⟨scrO vs, vs.toArray, _, known, rfl, rfl, rfl, by simpa using sz, by simpa using rv⟩))
  | none =>
    have hid : ∀ {b o}, (PySem.W.hideAll s₁.heap [a]).get? b = some o → b ≠ a := fun {b o} e z => by
      rw [z, PySem.W.hideAll_none [a] List.mem_cons_self] at e
      cases e
    have keep : ∀ {b o}, s₁.heap.get? b = some o → b ≠ a → (PySem.W.hideAll s₁.heap [a]).get? b = some o := fun {b o} e ne => PySem.W.hideAll_get [a] e (by simpa using ne)
    have space : ∀ {b : Addr} {m : Str → Option Value}, s₁.heap.Ns b m → (PySem.W.hideAll s₁.heap [a]).Ns b m := fun {b m} h => by
      obtain ⟨o, es, ep, e1, e2, e3⟩ := h
      refine ⟨o, es, ep, keep e1 fun z => ?_, e2, e3⟩
      rw [z, ha] at e1
      cases e1
      cases e2
    have M : Mod K mg (PySem.W.hideAll s₁.heap [a]) := by
      refine ⟨fun b o e => keep (KX b o e) fun z => ?_, space hns, ⟨mb, space hb, hbb⟩, ?_⟩
      · rw [z, known] at e
        cases e
      · obtain ⟨m, m1, m2⟩ := hlim
        exact ⟨m, space m1, m2⟩
    obtain ⟨fd, ps, g, bind⟩ := G _ M
    refine enter_at (vs := vs) (base := PySem.W.hideAll s₁.heap [a]) (H := fun b => if b = a then some (.frz (scrO vs) (.lst (ns.map V.int))) else none) (fun b o e => ⟨PySem.W.of_hideAll _ e, if_neg (hid e)⟩) (Nat.le_of_eq (PySem.W.hideAll_size _ _)) M (fun b u z => ?_) (fun b u z => ?_) hg g hr bind (p _ (.inl (.inr ⟨scrO vs, if_pos rfl⟩)))
    · have z' : (if b = a then some (HO.frz (scrO vs) (.lst (ns.map V.int))) else none) = some u := z
      by_cases e : b = a
      · rw [if_pos e] at z'
        cases z'
        rw [e]
        exact ⟨ha, by rw [List.length_map]; exact hl, vs, _, rv, ha⟩
      · rw [if_neg e] at z'
        cases z'
    · have z' : (if b = a then some (HO.frz (scrO vs) (.lst (ns.map V.int))) else none) = some u := z
      by_cases e : b = a
      · rw [if_pos e] at z'
        cases z'
        exact ⟨_, rfl⟩
      · rw [if_neg e] at z'
        cases z'
/-- by the law's own promise -/
theorem enter_df (KX : K.In s₁.heap) (hns : s₁.heap.Ns mainGlobals mg) (hb : s₁.heap.Ns builtinsNs mb) (hbb : ∀ x : Str, x ≠ "__name__" → mb x = bootBuiltins x) (hlim : s₁.heap.NoLimit) (hg : s₁.gens = #[]) (hfa : mg "law" = some (.ref fa))
    (ha : s₁.heap.get? a = some (scrO vs)) (hi : IntsAre vs ns) (hl : ns.length ≤ sizeLine) (hr : Room k callerA) {S : Sg} (F : ∀ base : Heap, Mod K mg base → Df ⟨P, w, K, mg, base, L2.CX P w⟩ k "law" (spP K 1 S)) (p : ∀ R : O → Prop, R (.val (.bl true)) → S [.scr ns] R) :
    codeAny (model P w) callerA (.call (.ref fa) ⟨[.ref a], []⟩) (fun r s' => r = .ok (.ret (.bool true)) ∧ OldK s₁.heap s'.heap ∧ s'.os = s₁.os ∧ AllBare s'.gens) s₁ := by
  refine enter (sp := spP K 1 S) KX hns hb hbb hlim hg ha hi hl hr (fun base M => ?_) fun H hS => ?_
  · obtain ⟨f, fd, ps, G, hm, kp, bn⟩ := F base M
    have hm' : mg "law" = some (.ref f) := hm
    rw [hfa] at hm'
    cases hm'
    exact ⟨fd, ps, G, fun h1 => bn s₁ [.ref a] KX (by rw [h1]; rfl)⟩
  · refine ⟨H, [.scr ns], fun o => o = .val (.bl true), rfl, Sub.rfl'.le, .cons (.scr hS) .nil, p _ rfl, fun v o f B' H' _ _ e r _ => ?_⟩
    rw [e] at r
    cases r with
    | val m => cases m; rfl
end
end Dn

/-! the defs of the text by their places, printed by a program. -/
namespace T
open PySem PySem.Spec L2 RZ Dn
def FAt (W : Wd) (x : Str) (st : Stmt) : Prop := ∃ f fd, Fun W.K x x st f fd ∧ W.mg x = some (.ref f)
def topS (i : Nat) : Stmt := PySem.Challenge.pw_nonearer_k84_whole_answers_in_great_stat.main.body.getD i (.Pass ⟨0, 0, 0, 0⟩)
abbrev s_is_integer : Stmt := topS 4
abbrev n_is_integer : List Str := ["value"]
theorem c_is_integer : FnScope n_is_integer ["value"] (defScope s_is_integer) := ⟨rfl, rfl, rfl, by decide +kernel, rfl, by decide +kernel, by decide +kernel⟩
theorem d_is_integer {W : Wd} {k : Nat} {sp : Sp} (h : ∀ f fd, Fun W.K "is_integer" "is_integer" s_is_integer f fd → W.mg "is_integer" = some (.ref f) → Binds W.K fd ["value"] [] → Df W k "is_integer" sp) (F : FAt W "is_integer" s_is_integer) : Df W k "is_integer" sp := by
  obtain ⟨f, fd, F, m⟩ := F
  exact h f fd F m (F.binds fun _ _ _ _ _ _ us hl => match us, hl with | [_], _ => rfl)
abbrev s_is_number : Stmt := topS 5
abbrev n_is_number : List Str := ["value"]
theorem c_is_number : FnScope n_is_number ["value"] (defScope s_is_number) := ⟨rfl, rfl, rfl, by decide +kernel, rfl, by decide +kernel, by decide +kernel⟩
theorem d_is_number {W : Wd} {k : Nat} {sp : Sp} (h : ∀ f fd, Fun W.K "is_number" "is_number" s_is_number f fd → W.mg "is_number" = some (.ref f) → Binds W.K fd ["value"] [] → Df W k "is_number" sp) (F : FAt W "is_number" s_is_number) : Df W k "is_number" sp := by
  obtain ⟨f, fd, F, m⟩ := F
  exact h f fd F m (F.binds fun _ _ _ _ _ _ us hl => match us, hl with | [_], _ => rfl)
abbrev s_are_numbers : Stmt := topS 6
abbrev n_are_numbers : List Str := ["value", "item"]
theorem c_are_numbers : FnScope n_are_numbers ["value"] (defScope s_are_numbers) := ⟨rfl, rfl, rfl, by decide +kernel, rfl, by decide +kernel, by decide +kernel⟩
theorem d_are_numbers {W : Wd} {k : Nat} {sp : Sp} (h : ∀ f fd, Fun W.K "are_numbers" "are_numbers" s_are_numbers f fd → W.mg "are_numbers" = some (.ref f) → Binds W.K fd ["value"] [] → Df W k "are_numbers" sp) (F : FAt W "are_numbers" s_are_numbers) : Df W k "are_numbers" sp := by
  obtain ⟨f, fd, F, m⟩ := F
  exact h f fd F m (F.binds fun _ _ _ _ _ _ us hl => match us, hl with | [_], _ => rfl)
abbrev s_differences : Stmt := topS 8
abbrev n_differences : List Str := ["one", "other", "mine", "yours"]
theorem c_differences : FnScope n_differences ["one", "other"] (defScope s_differences) := ⟨rfl, rfl, rfl, by decide +kernel, rfl, by decide +kernel, by decide +kernel⟩
theorem d_differences {W : Wd} {k : Nat} {sp : Sp} (h : ∀ f fd, Fun W.K "differences" "differences" s_differences f fd → W.mg "differences" = some (.ref f) → Binds W.K fd ["one", "other"] [] → Df W k "differences" sp) (F : FAt W "differences" s_differences) : Df W k "differences" sp := by
  obtain ⟨f, fd, F, m⟩ := F
  exact h f fd F m (F.binds fun _ _ _ _ _ _ us hl => match us, hl with | [_, _], _ => rfl)
abbrev s_part_of : Stmt := topS 10
abbrev n_part_of : List Str := ["kind", "difference"]
theorem c_part_of : FnScope n_part_of ["kind", "difference"] (defScope s_part_of) := ⟨rfl, rfl, rfl, by decide +kernel, rfl, by decide +kernel, by decide +kernel⟩
theorem d_part_of {W : Wd} {k : Nat} {sp : Sp} (h : ∀ f fd, Fun W.K "part_of" "part_of" s_part_of f fd → W.mg "part_of" = some (.ref f) → Binds W.K fd ["kind", "difference"] [] → Df W k "part_of" sp) (F : FAt W "part_of" s_part_of) : Df W k "part_of" sp := by
  obtain ⟨f, fd, F, m⟩ := F
  exact h f fd F m (F.binds fun _ _ _ _ _ _ us hl => match us, hl with | [_, _], _ => rfl)
abbrev s_joined_parts : Stmt := topS 11
abbrev n_joined_parts : List Str := ["kind", "parts"]
theorem c_joined_parts : FnScope n_joined_parts ["kind", "parts"] (defScope s_joined_parts) := ⟨rfl, rfl, rfl, by decide +kernel, rfl, by decide +kernel, by decide +kernel⟩
theorem d_joined_parts {W : Wd} {k : Nat} {sp : Sp} (h : ∀ f fd, Fun W.K "joined_parts" "joined_parts" s_joined_parts f fd → W.mg "joined_parts" = some (.ref f) → Binds W.K fd ["kind", "parts"] [] → Df W k "joined_parts" sp) (F : FAt W "joined_parts" s_joined_parts) : Df W k "joined_parts" sp := by
  obtain ⟨f, fd, F, m⟩ := F
  exact h f fd F m (F.binds fun _ _ _ _ _ _ us hl => match us, hl with | [_, _], _ => rfl)
abbrev s_distance : Stmt := topS 12
abbrev n_distance : List Str := ["kind", "one", "other", "difference"]
theorem c_distance : FnScope n_distance ["kind", "one", "other"] (defScope s_distance) := ⟨rfl, rfl, rfl, by decide +kernel, rfl, by decide +kernel, by decide +kernel⟩
theorem d_distance {W : Wd} {k : Nat} {sp : Sp} (h : ∀ f fd, Fun W.K "distance" "distance" s_distance f fd → W.mg "distance" = some (.ref f) → Binds W.K fd ["kind", "one", "other"] [] → Df W k "distance" sp) (F : FAt W "distance" s_distance) : Df W k "distance" sp := by
  obtain ⟨f, fd, F, m⟩ := F
  exact h f fd F m (F.binds fun _ _ _ _ _ _ us hl => match us, hl with | [_, _, _], _ => rfl)
abbrev s_label_in : Stmt := topS 14
abbrev n_label_in : List Str := ["labels", "name", "other", "value"]
theorem c_label_in : FnScope n_label_in ["labels", "name"] (defScope s_label_in) := ⟨rfl, rfl, rfl, by decide +kernel, rfl, by decide +kernel, by decide +kernel⟩
theorem d_label_in {W : Wd} {k : Nat} {sp : Sp} (h : ∀ f fd, Fun W.K "label_in" "label_in" s_label_in f fd → W.mg "label_in" = some (.ref f) → Binds W.K fd ["labels", "name"] [] → Df W k "label_in" sp) (F : FAt W "label_in" s_label_in) : Df W k "label_in" sp := by
  obtain ⟨f, fd, F, m⟩ := F
  exact h f fd F m (F.binds fun _ _ _ _ _ _ us hl => match us, hl with | [_, _], _ => rfl)
abbrev s_lets_by : Stmt := topS 16
abbrev n_lets_by : List Str := ["sieve", "labels", "part", "value"]
theorem c_lets_by : FnScope n_lets_by ["sieve", "labels"] (defScope s_lets_by) := ⟨rfl, rfl, rfl, by decide +kernel, rfl, by decide +kernel, by decide +kernel⟩
theorem d_lets_by {W : Wd} {k : Nat} {sp : Sp} (h : ∀ f fd, Fun W.K "lets_by" "lets_by" s_lets_by f fd → W.mg "lets_by" = some (.ref f) → Binds W.K fd ["sieve", "labels"] [] → Df W k "lets_by" sp) (F : FAt W "lets_by" s_lets_by) : Df W k "lets_by" sp := by
  obtain ⟨f, fd, F, m⟩ := F
  exact h f fd F m (F.binds fun _ _ _ _ _ _ us hl => match us, hl with | [_, _], _ => rfl)
abbrev s_passes : Stmt := topS 17
abbrev n_passes : List Str := ["sieve", "item"]
theorem c_passes : FnScope n_passes ["sieve", "item"] (defScope s_passes) := ⟨rfl, rfl, rfl, by decide +kernel, rfl, by decide +kernel, by decide +kernel⟩
theorem d_passes {W : Wd} {k : Nat} {sp : Sp} (h : ∀ f fd, Fun W.K "passes" "passes" s_passes f fd → W.mg "passes" = some (.ref f) → Binds W.K fd ["sieve", "item"] [] → Df W k "passes" sp) (F : FAt W "passes" s_passes) : Df W k "passes" sp := by
  obtain ⟨f, fd, F, m⟩ := F
  exact h f fd F m (F.binds fun _ _ _ _ _ _ us hl => match us, hl with | [_, _], _ => rfl)
abbrev s_deed_key : Stmt := topS 19
abbrev n_deed_key : List Str := ["deed"]
theorem c_deed_key : FnScope n_deed_key ["deed"] (defScope s_deed_key) := ⟨rfl, rfl, rfl, by decide +kernel, rfl, by decide +kernel, by decide +kernel⟩
theorem d_deed_key {W : Wd} {k : Nat} {sp : Sp} (h : ∀ f fd, Fun W.K "deed_key" "deed_key" s_deed_key f fd → W.mg "deed_key" = some (.ref f) → Binds W.K fd ["deed"] [] → Df W k "deed_key" sp) (F : FAt W "deed_key" s_deed_key) : Df W k "deed_key" sp := by
  obtain ⟨f, fd, F, m⟩ := F
  exact h f fd F m (F.binds fun _ _ _ _ _ _ us hl => match us, hl with | [_], _ => rfl)
abbrev s_done : Stmt := topS 21
abbrev n_done : List Str := ["state", "deed", "key", "found", "other", "item"]
theorem c_done : FnScope n_done ["state", "deed"] (defScope s_done) := ⟨rfl, rfl, rfl, by decide +kernel, rfl, by decide +kernel, by decide +kernel⟩
theorem d_done {W : Wd} {k : Nat} {sp : Sp} (h : ∀ f fd, Fun W.K "done" "done" s_done f fd → W.mg "done" = some (.ref f) → Binds W.K fd ["state", "deed"] [] → Df W k "done" sp) (F : FAt W "done" s_done) : Df W k "done" sp := by
  obtain ⟨f, fd, F, m⟩ := F
  exact h f fd F m (F.binds fun _ _ _ _ _ _ us hl => match us, hl with | [_, _], _ => rfl)
abbrev s_done_all : Stmt := topS 22
abbrev n_done_all : List Str := ["state", "deeds", "found", "deed"]
theorem c_done_all : FnScope n_done_all ["state", "deeds"] (defScope s_done_all) := ⟨rfl, rfl, rfl, by decide +kernel, rfl, by decide +kernel, by decide +kernel⟩
theorem d_done_all {W : Wd} {k : Nat} {sp : Sp} (h : ∀ f fd, Fun W.K "done_all" "done_all" s_done_all f fd → W.mg "done_all" = some (.ref f) → Binds W.K fd ["state", "deeds"] [] → Df W k "done_all" sp) (F : FAt W "done_all" s_done_all) : Df W k "done_all" sp := by
  obtain ⟨f, fd, F, m⟩ := F
  exact h f fd F m (F.binds fun _ _ _ _ _ _ us hl => match us, hl with | [_, _], _ => rfl)
abbrev s_state_of : Stmt := topS 23
abbrev n_state_of : List Str := ["items", "item"]
theorem c_state_of : FnScope n_state_of ["items"] (defScope s_state_of) := ⟨rfl, rfl, rfl, by decide +kernel, rfl, by decide +kernel, by decide +kernel⟩
theorem d_state_of {W : Wd} {k : Nat} {sp : Sp} (h : ∀ f fd, Fun W.K "state_of" "state_of" s_state_of f fd → W.mg "state_of" = some (.ref f) → Binds W.K fd ["items"] [] → Df W k "state_of" sp) (F : FAt W "state_of" s_state_of) : Df W k "state_of" sp := by
  obtain ⟨f, fd, F, m⟩ := F
  exact h f fd F m (F.binds fun _ _ _ _ _ _ us hl => match us, hl with | [_], _ => rfl)
abbrev s_last_deeds : Stmt := topS 24
abbrev n_last_deeds : List Str := ["deeds", "found", "deed", "key"]
theorem c_last_deeds : FnScope n_last_deeds ["deeds"] (defScope s_last_deeds) := ⟨rfl, rfl, rfl, by decide +kernel, rfl, by decide +kernel, by decide +kernel⟩
theorem d_last_deeds {W : Wd} {k : Nat} {sp : Sp} (h : ∀ f fd, Fun W.K "last_deeds" "last_deeds" s_last_deeds f fd → W.mg "last_deeds" = some (.ref f) → Binds W.K fd ["deeds"] [] → Df W k "last_deeds" sp) (F : FAt W "last_deeds" s_last_deeds) : Df W k "last_deeds" sp := by
  obtain ⟨f, fd, F, m⟩ := F
  exact h f fd F m (F.binds fun _ _ _ _ _ _ us hl => match us, hl with | [_], _ => rfl)
abbrev s_deeds_between : Stmt := topS 25
abbrev n_deeds_between : List Str := ["one", "other", "found", "key"]
theorem c_deeds_between : FnScope n_deeds_between ["one", "other"] (defScope s_deeds_between) := ⟨rfl, rfl, rfl, by decide +kernel, rfl, by decide +kernel, by decide +kernel⟩
theorem d_deeds_between {W : Wd} {k : Nat} {sp : Sp} (h : ∀ f fd, Fun W.K "deeds_between" "deeds_between" s_deeds_between f fd → W.mg "deeds_between" = some (.ref f) → Binds W.K fd ["one", "other"] [] → Df W k "deeds_between" sp) (F : FAt W "deeds_between" s_deeds_between) : Df W k "deeds_between" sp := by
  obtain ⟨f, fd, F, m⟩ := F
  exact h f fd F m (F.binds fun _ _ _ _ _ _ us hl => match us, hl with | [_, _], _ => rfl)
abbrev s_passing_keys : Stmt := topS 26
abbrev n_passing_keys : List Str := ["state", "sieve", "key", "item"]
theorem c_passing_keys : FnScope n_passing_keys ["state", "sieve"] (defScope s_passing_keys) := ⟨rfl, rfl, rfl, by decide +kernel, rfl, by decide +kernel, by decide +kernel⟩
theorem d_passing_keys {W : Wd} {k : Nat} {sp : Sp} (h : ∀ f fd, Fun W.K "passing_keys" "passing_keys" s_passing_keys f fd → W.mg "passing_keys" = some (.ref f) → Binds W.K fd ["state", "sieve"] [] → Df W k "passing_keys" sp) (F : FAt W "passing_keys" s_passing_keys) : Df W k "passing_keys" sp := by
  obtain ⟨f, fd, F, m⟩ := F
  exact h f fd F m (F.binds fun _ _ _ _ _ _ us hl => match us, hl with | [_, _], _ => rfl)
abbrev s_pairs_from : Stmt := topS 27
abbrev n_pairs_from : List Str := ["state", "kind", "vector", "sieve", "keys", "key"]
theorem c_pairs_from : FnScope n_pairs_from ["state", "kind", "vector", "sieve"] (defScope s_pairs_from) := ⟨rfl, rfl, rfl, by decide +kernel, rfl, by decide +kernel, by decide +kernel⟩
theorem d_pairs_from {W : Wd} {k : Nat} {sp : Sp} (h : ∀ f fd, Fun W.K "pairs_from" "pairs_from" s_pairs_from f fd → W.mg "pairs_from" = some (.ref f) → Binds W.K fd ["state", "kind", "vector", "sieve"] [] → Df W k "pairs_from" sp) (F : FAt W "pairs_from" s_pairs_from) : Df W k "pairs_from" sp := by
  obtain ⟨f, fd, F, m⟩ := F
  exact h f fd F m (F.binds fun _ _ _ _ _ _ us hl => match us, hl with | [_, _, _, _], _ => rfl)
abbrev s_nearest : Stmt := topS 28
abbrev n_nearest : List Str := ["state", "question", "kind", "vector", "many", "sieve"]
theorem c_nearest : FnScope n_nearest ["state", "question"] (defScope s_nearest) := ⟨rfl, rfl, rfl, by decide +kernel, rfl, by decide +kernel, by decide +kernel⟩
theorem d_nearest {W : Wd} {k : Nat} {sp : Sp} (h : ∀ f fd, Fun W.K "nearest" "nearest" s_nearest f fd → W.mg "nearest" = some (.ref f) → Binds W.K fd ["state", "question"] [] → Df W k "nearest" sp) (F : FAt W "nearest" s_nearest) : Df W k "nearest" sp := by
  obtain ⟨f, fd, F, m⟩ := F
  exact h f fd F m (F.binds fun _ _ _ _ _ _ us hl => match us, hl with | [_, _], _ => rfl)
abbrev s_within : Stmt := topS 29
abbrev n_within : List Str := ["state", "kind", "vector", "reach", "sieve", "pair"]
theorem c_within : FnScope n_within ["state", "kind", "vector", "reach", "sieve"] (defScope s_within) := ⟨rfl, rfl, rfl, by decide +kernel, rfl, by decide +kernel, by decide +kernel⟩
theorem d_within {W : Wd} {k : Nat} {sp : Sp} (h : ∀ f fd, Fun W.K "within" "within" s_within f fd → W.mg "within" = some (.ref f) → Binds W.K fd ["state", "kind", "vector", "reach", "sieve"] [] → Df W k "within" sp) (F : FAt W "within" s_within) : Df W k "within" sp := by
  obtain ⟨f, fd, F, m⟩ := F
  exact h f fd F m (F.binds fun _ _ _ _ _ _ us hl => match us, hl with | [_, _, _, _, _], _ => rfl)
abbrev s_count_within : Stmt := topS 30
abbrev n_count_within : List Str := ["state", "kind", "vector", "reach", "sieve"]
theorem c_count_within : FnScope n_count_within ["state", "kind", "vector", "reach", "sieve"] (defScope s_count_within) := ⟨rfl, rfl, rfl, by decide +kernel, rfl, by decide +kernel, by decide +kernel⟩
theorem d_count_within {W : Wd} {k : Nat} {sp : Sp} (h : ∀ f fd, Fun W.K "count_within" "count_within" s_count_within f fd → W.mg "count_within" = some (.ref f) → Binds W.K fd ["state", "kind", "vector", "reach", "sieve"] [] → Df W k "count_within" sp) (F : FAt W "count_within" s_count_within) : Df W k "count_within" sp := by
  obtain ⟨f, fd, F, m⟩ := F
  exact h f fd F m (F.binds fun _ _ _ _ _ _ us hl => match us, hl with | [_, _, _, _, _], _ => rfl)
abbrev s_reach_of : Stmt := topS 31
abbrev n_reach_of : List Str := ["state", "question", "answer"]
theorem c_reach_of : FnScope n_reach_of ["state", "question"] (defScope s_reach_of) := ⟨rfl, rfl, rfl, by decide +kernel, rfl, by decide +kernel, by decide +kernel⟩
theorem d_reach_of {W : Wd} {k : Nat} {sp : Sp} (h : ∀ f fd, Fun W.K "reach_of" "reach_of" s_reach_of f fd → W.mg "reach_of" = some (.ref f) → Binds W.K fd ["state", "question"] [] → Df W k "reach_of" sp) (F : FAt W "reach_of" s_reach_of) : Df W k "reach_of" sp := by
  obtain ⟨f, fd, F, m⟩ := F
  exact h f fd F m (F.binds fun _ _ _ _ _ _ us hl => match us, hl with | [_, _], _ => rfl)
abbrev s_rank_of : Stmt := topS 32
abbrev n_rank_of : List Str := ["state", "question", "key", "kind", "vector", "many", "sieve", "rank", "pair"]
theorem c_rank_of : FnScope n_rank_of ["state", "question", "key"] (defScope s_rank_of) := ⟨rfl, rfl, rfl, by decide +kernel, rfl, by decide +kernel, by decide +kernel⟩
theorem d_rank_of {W : Wd} {k : Nat} {sp : Sp} (h : ∀ f fd, Fun W.K "rank_of" "rank_of" s_rank_of f fd → W.mg "rank_of" = some (.ref f) → Binds W.K fd ["state", "question", "key"] [] → Df W k "rank_of" sp) (F : FAt W "rank_of" s_rank_of) : Df W k "rank_of" sp := by
  obtain ⟨f, fd, F, m⟩ := F
  exact h f fd F m (F.binds fun _ _ _ _ _ _ us hl => match us, hl with | [_, _, _], _ => rfl)
abbrev s_union_of : Stmt := topS 33
abbrev n_union_of : List Str := ["states", "found", "state", "key", "item"]
theorem c_union_of : FnScope n_union_of ["states"] (defScope s_union_of) := ⟨rfl, rfl, rfl, by decide +kernel, rfl, by decide +kernel, by decide +kernel⟩
theorem d_union_of {W : Wd} {k : Nat} {sp : Sp} (h : ∀ f fd, Fun W.K "union_of" "union_of" s_union_of f fd → W.mg "union_of" = some (.ref f) → Binds W.K fd ["states"] [] → Df W k "union_of" sp) (F : FAt W "union_of" s_union_of) : Df W k "union_of" sp := by
  obtain ⟨f, fd, F, m⟩ := F
  exact h f fd F m (F.binds fun _ _ _ _ _ _ us hl => match us, hl with | [_], _ => rfl)
abbrev s_first_of_all : Stmt := topS 34
abbrev n_first_of_all : List Str := ["answers", "many", "answer", "pair"]
theorem c_first_of_all : FnScope n_first_of_all ["answers", "many"] (defScope s_first_of_all) := ⟨rfl, rfl, rfl, by decide +kernel, rfl, by decide +kernel, by decide +kernel⟩
theorem d_first_of_all {W : Wd} {k : Nat} {sp : Sp} (h : ∀ f fd, Fun W.K "first_of_all" "first_of_all" s_first_of_all f fd → W.mg "first_of_all" = some (.ref f) → Binds W.K fd ["answers", "many"] [] → Df W k "first_of_all" sp) (F : FAt W "first_of_all" s_first_of_all) : Df W k "first_of_all" sp := by
  obtain ⟨f, fd, F, m⟩ := F
  exact h f fd F m (F.binds fun _ _ _ _ _ _ us hl => match us, hl with | [_, _], _ => rfl)
abbrev s_is_pair : Stmt := topS 35
abbrev n_is_pair : List Str := ["value"]
theorem c_is_pair : FnScope n_is_pair ["value"] (defScope s_is_pair) := ⟨rfl, rfl, rfl, by decide +kernel, rfl, by decide +kernel, by decide +kernel⟩
theorem d_is_pair {W : Wd} {k : Nat} {sp : Sp} (h : ∀ f fd, Fun W.K "is_pair" "is_pair" s_is_pair f fd → W.mg "is_pair" = some (.ref f) → Binds W.K fd ["value"] [] → Df W k "is_pair" sp) (F : FAt W "is_pair" s_is_pair) : Df W k "is_pair" sp := by
  obtain ⟨f, fd, F, m⟩ := F
  exact h f fd F m (F.binds fun _ _ _ _ _ _ us hl => match us, hl with | [_], _ => rfl)
abbrev s_answer_fault : Stmt := topS 36
abbrev n_answer_fault : List Str := ["state", "question", "value", "at", "pair", "kind", "vector", "many", "sieve", "pairs"]
theorem c_answer_fault : FnScope n_answer_fault ["state", "question", "value"] (defScope s_answer_fault) := ⟨rfl, rfl, rfl, by decide +kernel, rfl, by decide +kernel, by decide +kernel⟩
theorem d_answer_fault {W : Wd} {k : Nat} {sp : Sp} (h : ∀ f fd, Fun W.K "answer_fault" "answer_fault" s_answer_fault f fd → W.mg "answer_fault" = some (.ref f) → Binds W.K fd ["state", "question", "value"] [] → Df W k "answer_fault" sp) (F : FAt W "answer_fault" s_answer_fault) : Df W k "answer_fault" sp := by
  obtain ⟨f, fd, F, m⟩ := F
  exact h f fd F m (F.binds fun _ _ _ _ _ _ us hl => match us, hl with | [_, _, _], _ => rfl)
abbrev s__law_heap : Stmt := topS 38
abbrev n__law_heap : List Str := ["script", "cells", "stir", "cell"]
theorem c__law_heap : FnScope n__law_heap ["script"] (defScope s__law_heap) := ⟨rfl, rfl, rfl, by decide +kernel, rfl, by decide +kernel, by decide +kernel⟩
theorem d__law_heap {W : Wd} {k : Nat} {sp : Sp} (h : ∀ f fd, Fun W.K "_law_heap" "_law_heap" s__law_heap f fd → W.mg "_law_heap" = some (.ref f) → Binds W.K fd ["script"] [] → Df W k "_law_heap" sp) (F : FAt W "_law_heap" s__law_heap) : Df W k "_law_heap" sp := by
  obtain ⟨f, fd, F, m⟩ := F
  exact h f fd F m (F.binds fun _ _ _ _ _ _ us hl => match us, hl with | [_], _ => rfl)
abbrev s__law_draw : Stmt := topS 39
abbrev n__law_draw : List Str := ["heap", "many", "rest"]
theorem c__law_draw : FnScope n__law_draw ["heap", "many"] (defScope s__law_draw) := ⟨rfl, rfl, rfl, by decide +kernel, rfl, by decide +kernel, by decide +kernel⟩
theorem d__law_draw {W : Wd} {k : Nat} {sp : Sp} (h : ∀ f fd, Fun W.K "_law_draw" "_law_draw" s__law_draw f fd → W.mg "_law_draw" = some (.ref f) → Binds W.K fd ["heap", "many"] [] → Df W k "_law_draw" sp) (F : FAt W "_law_draw" s__law_draw) : Df W k "_law_draw" sp := by
  obtain ⟨f, fd, F, m⟩ := F
  exact h f fd F m (F.binds fun _ _ _ _ _ _ us hl => match us, hl with | [_, _], _ => rfl)
abbrev s__law_pick : Stmt := topS 40
abbrev n__law_pick : List Str := ["heap", "some"]
theorem c__law_pick : FnScope n__law_pick ["heap", "some"] (defScope s__law_pick) := ⟨rfl, rfl, rfl, by decide +kernel, rfl, by decide +kernel, by decide +kernel⟩
theorem d__law_pick {W : Wd} {k : Nat} {sp : Sp} (h : ∀ f fd, Fun W.K "_law_pick" "_law_pick" s__law_pick f fd → W.mg "_law_pick" = some (.ref f) → Binds W.K fd ["heap", "some"] [] → Df W k "_law_pick" sp) (F : FAt W "_law_pick" s__law_pick) : Df W k "_law_pick" sp := by
  obtain ⟨f, fd, F, m⟩ := F
  exact h f fd F m (F.binds fun _ _ _ _ _ _ us hl => match us, hl with | [_, _], _ => rfl)
abbrev s__law_joined : Stmt := topS 41
abbrev n__law_joined : List Str := ["kind", "gaps", "gap"]
theorem c__law_joined : FnScope n__law_joined ["kind", "gaps"] (defScope s__law_joined) := ⟨rfl, rfl, rfl, by decide +kernel, rfl, by decide +kernel, by decide +kernel⟩
theorem d__law_joined {W : Wd} {k : Nat} {sp : Sp} (h : ∀ f fd, Fun W.K "_law_joined" "_law_joined" s__law_joined f fd → W.mg "_law_joined" = some (.ref f) → Binds W.K fd ["kind", "gaps"] [] → Df W k "_law_joined" sp) (F : FAt W "_law_joined" s__law_joined) : Df W k "_law_joined" sp := by
  obtain ⟨f, fd, F, m⟩ := F
  exact h f fd F m (F.binds fun _ _ _ _ _ _ us hl => match us, hl with | [_, _], _ => rfl)
abbrev s__law_distance : Stmt := topS 42
abbrev n__law_distance : List Str := ["kind", "one", "other", "mine", "yours"]
theorem c__law_distance : FnScope n__law_distance ["kind", "one", "other"] (defScope s__law_distance) := ⟨rfl, rfl, rfl, by decide +kernel, rfl, by decide +kernel, by decide +kernel⟩
theorem d__law_distance {W : Wd} {k : Nat} {sp : Sp} (h : ∀ f fd, Fun W.K "_law_distance" "_law_distance" s__law_distance f fd → W.mg "_law_distance" = some (.ref f) → Binds W.K fd ["kind", "one", "other"] [] → Df W k "_law_distance" sp) (F : FAt W "_law_distance" s__law_distance) : Df W k "_law_distance" sp := by
  obtain ⟨f, fd, F, m⟩ := F
  exact h f fd F m (F.binds fun _ _ _ _ _ _ us hl => match us, hl with | [_, _, _], _ => rfl)
abbrev s__law_row : Stmt := topS 43
abbrev n__law_row : List Str := ["heap", "many", "wide", "step", "low", "turn", "first", "run", "at"]
theorem c__law_row : FnScope n__law_row ["heap", "many"] (defScope s__law_row) := ⟨rfl, rfl, rfl, by decide +kernel, rfl, by decide +kernel, by decide +kernel⟩
theorem d__law_row {W : Wd} {k : Nat} {sp : Sp} (h : ∀ f fd, Fun W.K "_law_row" "_law_row" s__law_row f fd → W.mg "_law_row" = some (.ref f) → Binds W.K fd ["heap", "many"] [] → Df W k "_law_row" sp) (F : FAt W "_law_row" s__law_row) : Df W k "_law_row" sp := by
  obtain ⟨f, fd, F, m⟩ := F
  exact h f fd F m (F.binds fun _ _ _ _ _ _ us hl => match us, hl with | [_, _], _ => rfl)
abbrev s__law_vectors : Stmt := topS 44
abbrev n__law_vectors : List Str := ["heap", "many", "places", "rows", "place", "kept", "row", "at", "turn"]
theorem c__law_vectors : FnScope n__law_vectors ["heap", "many", "places"] (defScope s__law_vectors) := ⟨rfl, rfl, rfl, by decide +kernel, rfl, by decide +kernel, by decide +kernel⟩
theorem d__law_vectors {W : Wd} {k : Nat} {sp : Sp} (h : ∀ f fd, Fun W.K "_law_vectors" "_law_vectors" s__law_vectors f fd → W.mg "_law_vectors" = some (.ref f) → Binds W.K fd ["heap", "many", "places"] [] → Df W k "_law_vectors" sp) (F : FAt W "_law_vectors" s__law_vectors) : Df W k "_law_vectors" sp := by
  obtain ⟨f, fd, F, m⟩ := F
  exact h f fd F m (F.binds fun _ _ _ _ _ _ us hl => match us, hl with | [_, _, _], _ => rfl)
abbrev s__law_keys : Stmt := topS 45
abbrev n__law_keys : List Str := ["heap", "many", "prime", "times", "first", "at"]
theorem c__law_keys : FnScope n__law_keys ["heap", "many"] (defScope s__law_keys) := ⟨rfl, rfl, rfl, by decide +kernel, rfl, by decide +kernel, by decide +kernel⟩
theorem d__law_keys {W : Wd} {k : Nat} {sp : Sp} (h : ∀ f fd, Fun W.K "_law_keys" "_law_keys" s__law_keys f fd → W.mg "_law_keys" = some (.ref f) → Binds W.K fd ["heap", "many"] [] → Df W k "_law_keys" sp) (F : FAt W "_law_keys" s__law_keys) : Df W k "_law_keys" sp := by
  obtain ⟨f, fd, F, m⟩ := F
  exact h f fd F m (F.binds fun _ _ _ _ _ _ us hl => match us, hl with | [_, _], _ => rfl)
abbrev s__law_worths : Stmt := topS 46
abbrev n__law_worths : List Str := ["heap", "many", "parts", "turn", "first", "share", "wide", "step", "begin", "low", "gathered", "at", "there"]
theorem c__law_worths : FnScope n__law_worths ["heap", "many"] (defScope s__law_worths) := ⟨rfl, rfl, rfl, by decide +kernel, rfl, by decide +kernel, by decide +kernel⟩
theorem d__law_worths {W : Wd} {k : Nat} {sp : Sp} (h : ∀ f fd, Fun W.K "_law_worths" "_law_worths" s__law_worths f fd → W.mg "_law_worths" = some (.ref f) → Binds W.K fd ["heap", "many"] [] → Df W k "_law_worths" sp) (F : FAt W "_law_worths" s__law_worths) : Df W k "_law_worths" sp := by
  obtain ⟨f, fd, F, m⟩ := F
  exact h f fd F m (F.binds fun _ _ _ _ _ _ us hl => match us, hl with | [_, _], _ => rfl)
abbrev s__law_labels : Stmt := topS 47
abbrev n__law_labels : List Str := ["heap", "many", "names", "rows", "name", "row", "at"]
theorem c__law_labels : FnScope n__law_labels ["heap", "many", "names"] (defScope s__law_labels) := ⟨rfl, rfl, rfl, by decide +kernel, rfl, by decide +kernel, by decide +kernel⟩
theorem d__law_labels {W : Wd} {k : Nat} {sp : Sp} (h : ∀ f fd, Fun W.K "_law_labels" "_law_labels" s__law_labels f fd → W.mg "_law_labels" = some (.ref f) → Binds W.K fd ["heap", "many", "names"] [] → Df W k "_law_labels" sp) (F : FAt W "_law_labels" s__law_labels) : Df W k "_law_labels" sp := by
  obtain ⟨f, fd, F, m⟩ := F
  exact h f fd F m (F.binds fun _ _ _ _ _ _ us hl => match us, hl with | [_, _, _], _ => rfl)
abbrev s__law_items : Stmt := topS 48
abbrev n__law_items : List Str := ["heap", "many", "places", "names", "vectors", "labels", "at", "key"]
theorem c__law_items : FnScope n__law_items ["heap", "many", "places", "names"] (defScope s__law_items) := ⟨rfl, rfl, rfl, by decide +kernel, rfl, by decide +kernel, by decide +kernel⟩
theorem d__law_items {W : Wd} {k : Nat} {sp : Sp} (h : ∀ f fd, Fun W.K "_law_items" "_law_items" s__law_items f fd → W.mg "_law_items" = some (.ref f) → Binds W.K fd ["heap", "many", "places", "names"] [] → Df W k "_law_items" sp) (F : FAt W "_law_items" s__law_items) : Df W k "_law_items" sp := by
  obtain ⟨f, fd, F, m⟩ := F
  exact h f fd F m (F.binds fun _ _ _ _ _ _ us hl => match us, hl with | [_, _, _, _], _ => rfl)
abbrev s__law_state : Stmt := topS 49
abbrev n__law_state : List Str := ["items", "gathered", "item"]
theorem c__law_state : FnScope n__law_state ["items"] (defScope s__law_state) := ⟨rfl, rfl, rfl, by decide +kernel, rfl, by decide +kernel, by decide +kernel⟩
theorem d__law_state {W : Wd} {k : Nat} {sp : Sp} (h : ∀ f fd, Fun W.K "_law_state" "_law_state" s__law_state f fd → W.mg "_law_state" = some (.ref f) → Binds W.K fd ["items"] [] → Df W k "_law_state" sp) (F : FAt W "_law_state" s__law_state) : Df W k "_law_state" sp := by
  obtain ⟨f, fd, F, m⟩ := F
  exact h f fd F m (F.binds fun _ _ _ _ _ _ us hl => match us, hl with | [_], _ => rfl)
abbrev s__law_sieve : Stmt := topS 50
abbrev n__law_sieve : List Str := ["heap", "names", "deep", "kind", "name", "low"]
theorem c__law_sieve : FnScope n__law_sieve ["heap", "names", "deep"] (defScope s__law_sieve) := ⟨rfl, rfl, rfl, by decide +kernel, rfl, by decide +kernel, by decide +kernel⟩
theorem d__law_sieve {W : Wd} {k : Nat} {sp : Sp} (h : ∀ f fd, Fun W.K "_law_sieve" "_law_sieve" s__law_sieve f fd → W.mg "_law_sieve" = some (.ref f) → Binds W.K fd ["heap", "names", "deep"] [] → Df W k "_law_sieve" sp) (F : FAt W "_law_sieve" s__law_sieve) : Df W k "_law_sieve" sp := by
  obtain ⟨f, fd, F, m⟩ := F
  exact h f fd F m (F.binds fun _ _ _ _ _ _ us hl => match us, hl with | [_, _, _], _ => rfl)
abbrev s__law_passes : Stmt := topS 51
abbrev n__law_passes : List Str := ["sieve", "item", "told", "part", "values", "label"]
theorem c__law_passes : FnScope n__law_passes ["sieve", "item"] (defScope s__law_passes) := ⟨rfl, rfl, rfl, by decide +kernel, rfl, by decide +kernel, by decide +kernel⟩
theorem d__law_passes {W : Wd} {k : Nat} {sp : Sp} (h : ∀ f fd, Fun W.K "_law_passes" "_law_passes" s__law_passes f fd → W.mg "_law_passes" = some (.ref f) → Binds W.K fd ["sieve", "item"] [] → Df W k "_law_passes" sp) (F : FAt W "_law_passes" s__law_passes) : Df W k "_law_passes" sp := by
  obtain ⟨f, fd, F, m⟩ := F
  exact h f fd F m (F.binds fun _ _ _ _ _ _ us hl => match us, hl with | [_, _], _ => rfl)
abbrev s__law_pairs : Stmt := topS 52
abbrev n__law_pairs : List Str := ["kind", "vector", "sieve", "items", "item"]
theorem c__law_pairs : FnScope n__law_pairs ["kind", "vector", "sieve", "items"] (defScope s__law_pairs) := ⟨rfl, rfl, rfl, by decide +kernel, rfl, by decide +kernel, by decide +kernel⟩
theorem d__law_pairs {W : Wd} {k : Nat} {sp : Sp} (h : ∀ f fd, Fun W.K "_law_pairs" "_law_pairs" s__law_pairs f fd → W.mg "_law_pairs" = some (.ref f) → Binds W.K fd ["kind", "vector", "sieve", "items"] [] → Df W k "_law_pairs" sp) (F : FAt W "_law_pairs" s__law_pairs) : Df W k "_law_pairs" sp := by
  obtain ⟨f, fd, F, m⟩ := F
  exact h f fd F m (F.binds fun _ _ _ _ _ _ us hl => match us, hl with | [_, _, _, _], _ => rfl)
abbrev s__law_vector : Stmt := topS 53
abbrev n__law_vector : List Str := ["heap", "items", "places", "near", "kind", "place", "part"]
theorem c__law_vector : FnScope n__law_vector ["heap", "items", "places"] (defScope s__law_vector) := ⟨rfl, rfl, rfl, by decide +kernel, rfl, by decide +kernel, by decide +kernel⟩
theorem d__law_vector {W : Wd} {k : Nat} {sp : Sp} (h : ∀ f fd, Fun W.K "_law_vector" "_law_vector" s__law_vector f fd → W.mg "_law_vector" = some (.ref f) → Binds W.K fd ["heap", "items", "places"] [] → Df W k "_law_vector" sp) (F : FAt W "_law_vector" s__law_vector) : Df W k "_law_vector" sp := by
  obtain ⟨f, fd, F, m⟩ := F
  exact h f fd F m (F.binds fun _ _ _ _ _ _ us hl => match us, hl with | [_, _, _], _ => rfl)
abbrev s__law_same : Stmt := topS 54
abbrev n__law_same : List Str := ["one", "other"]
theorem c__law_same : FnScope n__law_same ["one", "other"] (defScope s__law_same) := ⟨rfl, rfl, rfl, by decide +kernel, rfl, by decide +kernel, by decide +kernel⟩
theorem d__law_same {W : Wd} {k : Nat} {sp : Sp} (h : ∀ f fd, Fun W.K "_law_same" "_law_same" s__law_same f fd → W.mg "_law_same" = some (.ref f) → Binds W.K fd ["one", "other"] [] → Df W k "_law_same" sp) (F : FAt W "_law_same" s__law_same) : Df W k "_law_same" sp := by
  obtain ⟨f, fd, F, m⟩ := F
  exact h f fd F m (F.binds fun _ _ _ _ _ _ us hl => match us, hl with | [_, _], _ => rfl)
abbrev s__law_spoilt : Stmt := topS 55
abbrev n__law_spoilt : List Str := ["heap", "pairs", "many", "answer", "at", "kind", "far", "key"]
theorem c__law_spoilt : FnScope n__law_spoilt ["heap", "pairs", "many"] (defScope s__law_spoilt) := ⟨rfl, rfl, rfl, by decide +kernel, rfl, by decide +kernel, by decide +kernel⟩
theorem d__law_spoilt {W : Wd} {k : Nat} {sp : Sp} (h : ∀ f fd, Fun W.K "_law_spoilt" "_law_spoilt" s__law_spoilt f fd → W.mg "_law_spoilt" = some (.ref f) → Binds W.K fd ["heap", "pairs", "many"] [] → Df W k "_law_spoilt" sp) (F : FAt W "_law_spoilt" s__law_spoilt) : Df W k "_law_spoilt" sp := by
  obtain ⟨f, fd, F, m⟩ := F
  exact h f fd F m (F.binds fun _ _ _ _ _ _ us hl => match us, hl with | [_, _, _], _ => rfl)
abbrev s__law_answers_right : Stmt := topS 56
abbrev n__law_answers_right : List Str := ["heap", "items", "state", "sieve", "vector", "kind", "pairs", "places", "pair", "many", "question", "key", "value", "due", "reach"]
theorem c__law_answers_right : FnScope n__law_answers_right ["heap", "items", "state", "sieve", "vector", "kind"] (defScope s__law_answers_right) := ⟨rfl, rfl, rfl, by decide +kernel, rfl, by decide +kernel, by decide +kernel⟩
theorem d__law_answers_right {W : Wd} {k : Nat} {sp : Sp} (h : ∀ f fd, Fun W.K "_law_answers_right" "_law_answers_right" s__law_answers_right f fd → W.mg "_law_answers_right" = some (.ref f) → Binds W.K fd ["heap", "items", "state", "sieve", "vector", "kind"] [] → Df W k "_law_answers_right" sp) (F : FAt W "_law_answers_right" s__law_answers_right) : Df W k "_law_answers_right" sp := by
  obtain ⟨f, fd, F, m⟩ := F
  exact h f fd F m (F.binds fun _ _ _ _ _ _ us hl => match us, hl with | [_, _, _, _, _, _], _ => rfl)
abbrev s__law_deeds_right : Stmt := topS 57
abbrev n__law_deeds_right : List Str := ["heap", "items", "state", "keys", "many", "item", "parts", "turn", "share", "first", "deeds", "after", "last", "at", "key", "is_take", "told", "due", "puts"]
theorem c__law_deeds_right : FnScope n__law_deeds_right ["heap", "items", "state"] (defScope s__law_deeds_right) := ⟨rfl, rfl, rfl, by decide +kernel, rfl, by decide +kernel, by decide +kernel⟩
theorem d__law_deeds_right {W : Wd} {k : Nat} {sp : Sp} (h : ∀ f fd, Fun W.K "_law_deeds_right" "_law_deeds_right" s__law_deeds_right f fd → W.mg "_law_deeds_right" = some (.ref f) → Binds W.K fd ["heap", "items", "state"] [] → Df W k "_law_deeds_right" sp) (F : FAt W "_law_deeds_right" s__law_deeds_right) : Df W k "_law_deeds_right" sp := by
  obtain ⟨f, fd, F, m⟩ := F
  exact h f fd F m (F.binds fun _ _ _ _ _ _ us hl => match us, hl with | [_, _, _], _ => rfl)
abbrev s__law_union_right : Stmt := topS 58
abbrev n__law_union_right : List Str := ["heap", "items", "state", "question", "parts", "turn", "first", "lots", "part", "at", "states", "lot", "pairs", "due", "some", "item", "twice", "error"]
theorem c__law_union_right : FnScope n__law_union_right ["heap", "items", "state", "question"] (defScope s__law_union_right) := ⟨rfl, rfl, rfl, by decide +kernel, rfl, by decide +kernel, by decide +kernel⟩
theorem d__law_union_right {W : Wd} {k : Nat} {sp : Sp} (h : ∀ f fd, Fun W.K "_law_union_right" "_law_union_right" s__law_union_right f fd → W.mg "_law_union_right" = some (.ref f) → Binds W.K fd ["heap", "items", "state", "question"] [] → Df W k "_law_union_right" sp) (F : FAt W "_law_union_right" s__law_union_right) : Df W k "_law_union_right" sp := by
  obtain ⟨f, fd, F, m⟩ := F
  exact h f fd F m (F.binds fun _ _ _ _ _ _ us hl => match us, hl with | [_, _, _, _], _ => rfl)
abbrev s_law : Stmt := topS 59
abbrev n_law : List Str := ["script", "heap", "kind", "places", "many", "names", "items", "state", "sieve", "vector"]
theorem c_law : FnScope n_law ["script"] (defScope s_law) := ⟨rfl, rfl, rfl, by decide +kernel, rfl, by decide +kernel, by decide +kernel⟩
theorem d_law {W : Wd} {k : Nat} {sp : Sp} (h : ∀ f fd, Fun W.K "law" "law" s_law f fd → W.mg "law" = some (.ref f) → Binds W.K fd ["script"] [] → Df W k "law" sp) (F : FAt W "law" s_law) : Df W k "law" sp := by
  obtain ⟨f, fd, F, m⟩ := F
  exact h f fd F m (F.binds fun _ _ _ _ _ _ us hl => match us, hl with | [_], _ => rfl)
structure Tx (W : Wd) : Prop where
  calm : W.calm
  xs : W.xs
  X_Refused : XCls W "Refused" "word"
  F_is_integer : FAt W "is_integer" s_is_integer
  F_is_number : FAt W "is_number" s_is_number
  F_are_numbers : FAt W "are_numbers" s_are_numbers
  F_differences : FAt W "differences" s_differences
  F_part_of : FAt W "part_of" s_part_of
  F_joined_parts : FAt W "joined_parts" s_joined_parts
  F_distance : FAt W "distance" s_distance
  F_label_in : FAt W "label_in" s_label_in
  F_lets_by : FAt W "lets_by" s_lets_by
  F_passes : FAt W "passes" s_passes
  F_deed_key : FAt W "deed_key" s_deed_key
  F_done : FAt W "done" s_done
  F_done_all : FAt W "done_all" s_done_all
  F_state_of : FAt W "state_of" s_state_of
  F_last_deeds : FAt W "last_deeds" s_last_deeds
  F_deeds_between : FAt W "deeds_between" s_deeds_between
  F_passing_keys : FAt W "passing_keys" s_passing_keys
  F_pairs_from : FAt W "pairs_from" s_pairs_from
  F_nearest : FAt W "nearest" s_nearest
  F_within : FAt W "within" s_within
  F_count_within : FAt W "count_within" s_count_within
  F_reach_of : FAt W "reach_of" s_reach_of
  F_rank_of : FAt W "rank_of" s_rank_of
  F_union_of : FAt W "union_of" s_union_of
  F_first_of_all : FAt W "first_of_all" s_first_of_all
  F_is_pair : FAt W "is_pair" s_is_pair
  F_answer_fault : FAt W "answer_fault" s_answer_fault
  F__law_heap : FAt W "_law_heap" s__law_heap
  F__law_draw : FAt W "_law_draw" s__law_draw
  F__law_pick : FAt W "_law_pick" s__law_pick
  F__law_joined : FAt W "_law_joined" s__law_joined
  F__law_distance : FAt W "_law_distance" s__law_distance
  F__law_row : FAt W "_law_row" s__law_row
  F__law_vectors : FAt W "_law_vectors" s__law_vectors
  F__law_keys : FAt W "_law_keys" s__law_keys
  F__law_worths : FAt W "_law_worths" s__law_worths
  F__law_labels : FAt W "_law_labels" s__law_labels
  F__law_items : FAt W "_law_items" s__law_items
  F__law_state : FAt W "_law_state" s__law_state
  F__law_sieve : FAt W "_law_sieve" s__law_sieve
  F__law_passes : FAt W "_law_passes" s__law_passes
  F__law_pairs : FAt W "_law_pairs" s__law_pairs
  F__law_vector : FAt W "_law_vector" s__law_vector
  F__law_same : FAt W "_law_same" s__law_same
  F__law_spoilt : FAt W "_law_spoilt" s__law_spoilt
  F__law_answers_right : FAt W "_law_answers_right" s__law_answers_right
  F__law_deeds_right : FAt W "_law_deeds_right" s__law_deeds_right
  F__law_union_right : FAt W "_law_union_right" s__law_union_right
  F_law : FAt W "law" s_law
  g_ValueError : W.mg "ValueError" = none
  g_abs : W.mg "abs" = none
  g_all : W.mg "all" = none
  g_any : W.mg "any" = none
  g_bool : W.mg "bool" = none
  g_dict : W.mg "dict" = none
  g_enumerate : W.mg "enumerate" = none
  g_int : W.mg "int" = none
  g_isinstance : W.mg "isinstance" = none
  g_len : W.mg "len" = none
  g_list : W.mg "list" = none
  g_max : W.mg "max" = none
  g_min : W.mg "min" = none
  g_range : W.mg "range" = none
  g_repr : W.mg "repr" = none
  g_set : W.mg "set" = none
  g_sorted : W.mg "sorted" = none
  g_sum : W.mg "sum" = none
  g_super : W.mg "super" = none
  g_tuple : W.mg "tuple" = none
  g_zip : W.mg "zip" = none
/-! levels: is_integer 1, is_number 2, are_numbers 3, differences 1, part_of 1, joined_parts 1, distance 2, label_in 1, lets_by 2, passes 3, deed_key 1, done 2, done_all 3, state_of 4, last_deeds 2, deeds_between 1, passing_keys 4, pairs_from 5, nearest 6, within 6, count_within 7, reach_of 7, rank_of 6, union_of 1, first_of_all 1, is_pair 4, answer_fault 6, _law_heap 1, _law_draw 1, _law_pick 2, _law_joined 1, _law_distance 2, _law_row 3, _law_vectors 4, _law_keys 3, _law_worths 3, _law_labels 4, _law_items 5, _law_state 1, _law_sieve 3, _law_passes 1, _law_pairs 3, _law_vector 3, _law_same 1, _law_spoilt 3, _law_answers_right 8, _law_deeds_right 4, _law_union_right 4, law 9 -/
end T

namespace T
open PySem PySem.Spec L2 RZ Dn
variable {W : Wd} {X : Cx} {k : Nat}

/-! ### the data -/
abbrev Lb := List (Str × Int)
abbrev Item := Int × List Int × Lb
def dV (v : List Int) : D := .tup (v.map .int)
def dLb (l : Lb) : D := .tup (l.map fun p => .tup [.str p.1, .int p.2])
def dIt (it : Item) : D := .tup [.int it.1, dV it.2.1, dLb it.2.2]
inductive Sv where
  | all | has (n : Str) | inn (n : Str) (lo hi : Int) | not (s : Sv) | and (a b : Sv) | or (a b : Sv)
def dSv : Sv → D
  | .all => .tup [.str "all"]
  | .has n => .tup [.str "has", .str n]
  | .inn n lo hi => .tup [.str "in", .str n, .int lo, .int hi]
  | .not s => .tup [.str "not", dSv s]
  | .and a b => .tup [.str "and", dSv a, dSv b]
  | .or a b => .tup [.str "or", dSv a, dSv b]
def Sv.dep : Sv → Nat
  | .all => 0
  | .has _ => 0
  | .inn _ _ _ => 0
  | .not s => s.dep + 1
  | .and a b => max a.dep b.dep + 1
  | .or a b => max a.dep b.dep + 1
def look (l : Lb) (n : Str) : Option Int := (l.find? fun p => decide (p.1 = n)).map (·.2)
def lets : Sv → Lb → Bool
  | .all, _ => true
  | .has n, l => (look l n).isSome
  | .inn n lo hi, l => match look l n with | some v => decide (lo ≤ v) && decide (v ≤ hi) | none => false
  | .not s, l => !lets s l
  | .and a b, l => lets a l && lets b l
  | .or a b, l => lets a l || lets b l
def partOf (kind : Str) (d : Int) : Int := if kind = "square" then d * d else if kind = "unlike" then (if d = 0 then 0 else 1) else if d < 0 then -d else d
def diffs (v u : List Int) : List Int := List.zipWith (· - ·) v u
def joined (kind : Str) (ps : List Int) : Int := if kind = "most" then mxD 0 ps else ps.sum
def dist (kind : Str) (v u : List Int) : Int := joined kind ((diffs v u).map (partOf kind))
def oI : Option Int → D
  | some i => .int i
  | none => .non
/-- every place within reach -/
def Near (v : List Int) : Prop := ∀ x ∈ v, x.natAbs < 2 ^ 40

/-! ### part_of, differences, joined_parts, distance -/
def S_part_of : Sg := fun ds R => ∃ (kd : Str) (d : Int), ds = [.str kd, .int d] ∧ d.natAbs < 2 ^ 62 ∧ R (.val (.int (partOf kd d)))
theorem b_part_of (tx : Tx W) (hb : Bc W X ⟨k, n_part_of, defScope s_part_of, fun _ => true⟩) (ho : Own X) (ds : List D) (R : O → Prop) (_ : ds.length = 2) (h : S_part_of ds R) :
    WSs X (defBody s_part_of) (begin0 n_part_of 2 (ds.map Slot.v)) { nx := fun _ => R (.val .non), rt := R } := by
  have gAbs := tx.g_abs
  obtain ⟨kd, d, rfl, hd, r⟩ := h
  refine wss_cons (ws_if (pb_cmp (rd_nm hb rfl (rd_str (c_eqS (iD (fun e => ?_) (fun e => ?_)))))))
  · refine wss_cons (ws_retP (pp_op (pp_nm hb rfl (pp_nm hb rfl (o_mul (.inl (by omega)) ?_)))))
    simpa [partOf, e] using r
  · refine wss_nil ?_
    refine wss_cons (ws_if (pb_cmp (rd_nm hb rfl (rd_str (c_eqS (iD (fun e2 => ?_) (fun e2 => ?_)))))))
    · refine wss_cons (ws_retP (pp_if (pb_cmp (rd_nm hb rfl (rd_int (c_neI (iN (fun e3 => pp_int ?_) (fun e3 => pp_int ?_))))))))
      · subst e2; simpa [partOf, e, e3] using r
      · subst e2 e3; simpa [partOf, e] using r
    · refine wss_nil ?_
      refine wss_cons (ws_retP (pp_cl hb (id := "abs") (pl1 (pp_nm hb rfl (i_abs ?_)))))
      simpa [partOf, e, e2] using r
theorem f_part_of (tx : Tx W) : Df W 1 "part_of" (spP W.K 2 S_part_of) := d_part_of (fun f fd F m bn => Df.mkP tx.calm F m c_part_of rfl bn fun X hb ho ds R hl h => b_part_of tx hb ho ds R hl h) tx.F_part_of

def subD (d : D) : D := match d with | .tup [.int x, .int y] => .int (x - y) | d => d
theorem zip_sub : ∀ v u : List Int, (zipD (v.map D.int) (u.map D.int)).map subD = (diffs v u).map D.int
  | [], _ => by simp [zipD, diffs]
  | _ :: _, [] => by simp [zipD, diffs]
  | x :: v, y :: u => by
    have ih := zip_sub v u
    simp only [zipD, diffs, List.map_cons, List.zipWith_cons_cons, List.cons.injEq] at ih ⊢
    exact ⟨rfl, ih⟩
def S_differences : Sg := fun ds R => ∃ v u : List Int, ds = [dV v, dV u] ∧ v.length ≤ 1000 ∧ R (.val (dV (diffs v u)))
theorem b_differences (tx : Tx W) (hb : Bc W X ⟨k, n_differences, defScope s_differences, fun _ => true⟩) (ho : Own X) (ds : List D) (R : O → Prop) (_ : ds.length = 2) (h : S_differences ds R) :
    WSs X (defBody s_differences) (begin0 n_differences 2 (ds.map Slot.v)) { nx := fun _ => R (.val .non), rt := R } := by
  have g1 := tx.g_tuple
  have g2 := tx.g_zip
  obtain ⟨v, u, rfl, hl, r⟩ := h
  refine wss_cons (ws_retP (pp_ty hb (id := "tuple") (pl1 (pp_lc hb tx.calm [("mine", 2), ("yours", 3)] (pit_zip hb (pl2 (pp_nm hb rfl (pp_nm hb rfl ⟨_, _, .inr rfl, ?_⟩))))))))
  refine lp_map subD ?_ ?_ fun d hd => ?_
  · simp only [zipD, List.length_zipWith, List.length_map]
    have : (1000 : Nat) ≤ sizeLine := by rw [sizeLine_eq]; decide
    omega
  · refine l_tuple ?_
    rw [zip_sub]
    exact r
  · obtain ⟨i, hi⟩ := List.getElem?_of_mem hd
    obtain ⟨x, y, h1, h2, rfl⟩ := zipD_get hi
    rw [List.getElem?_map] at h1 h2
    cases q1 : v[i]? with
    | none => rw [q1] at h1; cases h1
    | some x' =>
      cases q2 : u[i]? with
      | none => rw [q2] at h2; cases h2
      | some y' =>
        rw [q1] at h1
        rw [q2] at h2
        cases h1
        cases h2
        refine ⟨_, fun X' hb' => pgd_tup hb' (pgs_cons (pgd_name hb' 2 (by simp) (pgs_cons (pgd_name hb' 3 (by simp) (pgs_nil rfl))))), fun X' hb' => ?_⟩
        exact pp_op (pp_nm hb' rfl (pp_nm hb' rfl (o_sub rfl)))
end T

namespace T
open PySem PySem.Spec L2 RZ Dn
variable {W : Wd} {X : Cx} {k : Nat}
theorem f_differences (tx : Tx W) : Df W 1 "differences" (spP W.K 2 S_differences) := d_differences (fun f fd F m bn => Df.mkP tx.calm F m c_differences rfl bn fun X hb ho ds R hl h => b_differences tx hb ho ds R hl h) tx.F_differences

def S_joined_parts : Sg := fun ds R => ∃ (kd : Str) (ps : List Int), ds = [.str kd, .lst (ps.map .int)] ∧ R (.val (.int (joined kd ps)))
theorem b_joined_parts (tx : Tx W) (hb : Bc W X ⟨k, n_joined_parts, defScope s_joined_parts, fun _ => true⟩) (ho : Own X) (ds : List D) (R : O → Prop) (_ : ds.length = 2) (h : S_joined_parts ds R) :
    WSs X (defBody s_joined_parts) (begin0 n_joined_parts 2 (ds.map Slot.v)) { nx := fun _ => R (.val .non), rt := R } := by
  have g1 := tx.g_max
  have g2 := tx.g_sum
  obtain ⟨kd, ps, rfl, r⟩ := h
  refine wss_cons (ws_retP (pp_if (pb_cmp (rd_nm hb rfl (rd_str (c_eqS (iD (fun e => ?_) (fun e => ?_))))))))
  · refine pp_maxD hb (pp_nm hb rfl ⟨ps, rfl, ?_⟩)
    simpa [joined, e] using r
  · refine pp_cl hb (id := "sum") (pl1 (pp_nm hb rfl (l_sum hb ?_)))
    simpa [joined, e] using r
theorem f_joined_parts (tx : Tx W) : Df W 1 "joined_parts" (spP W.K 2 S_joined_parts) := d_joined_parts (fun f fd F m bn => Df.mkP tx.calm F m c_joined_parts rfl bn fun X hb ho ds R hl h => b_joined_parts tx hb ho ds R hl h) tx.F_joined_parts

theorem line1000 : (1000 : Nat) ≤ sizeLine := by rw [sizeLine_eq]; decide
theorem diffs_len (v u : List Int) : (diffs v u).length ≤ v.length := by
  unfold diffs
  rw [List.length_zipWith]
  omega
theorem diffs_near {v u : List Int} (hv : Near v) (hu : Near u) : ∀ d ∈ diffs v u, d.natAbs < 2 ^ 62 := by
  intro d hd
  obtain ⟨i, hi⟩ := List.getElem?_of_mem hd
  unfold diffs at hi
  rw [List.getElem?_zipWith] at hi
  cases q1 : v[i]? with
  | none => rw [q1] at hi; cases hi
  | some x =>
    cases q2 : u[i]? with
    | none => rw [q1, q2] at hi; cases hi
    | some y =>
      rw [q1, q2] at hi
      cases hi
      have h1 := hv x (List.mem_of_getElem? q1)
      have h2 := hu y (List.mem_of_getElem? q2)
      omega
def partD (kd : Str) (d : D) : D := match d with | .int x => .int (partOf kd x) | d => d
def S_distance : Sg := fun ds R => ∃ (kd : Str) (v u : List Int), ds = [.str kd, dV v, dV u] ∧ v.length ≤ 1000 ∧ Near v ∧ Near u ∧ R (.val (.int (dist kd v u)))
theorem b_distance (tx : Tx W) (hb : Bc W X ⟨k + 1, n_distance, defScope s_distance, fun _ => true⟩) (ho : Own X) (ds : List D) (R : O → Prop) (_ : ds.length = 3) (h : S_distance ds R) :
    WSs X (defBody s_distance) (begin0 n_distance 3 (ds.map Slot.v)) { nx := fun _ => R (.val .non), rt := R } := by
  obtain ⟨kd, v, u, rfl, hl, hv, hu, r⟩ := h
  refine wss_cons (ws_ret (po_call hb tx.calm (f_joined_parts tx) (pl2 (pp_nm hb rfl (pp_lc hb tx.calm [("difference", 3)] (pit_tup (pp_call hb tx.calm (f_differences tx) (pl2 (pp_nm hb rfl (pp_nm hb rfl ⟨rfl, v, u, rfl, hl, ⟨_, rfl, ?_⟩⟩))) (Nat.le_add_left _ _)))))) (Nat.le_add_left _ _)))
  refine lp_map (partD kd) ?_ ?_ fun d hd => ?_
  · have := line1000
    have := diffs_len v u
    simp
    omega
  · refine ⟨rfl, kd, (diffs v u).map (partOf kd), ?_, r⟩
    simp [partD, Function.comp_def]
  · obtain ⟨x, hx, rfl⟩ := List.mem_map.mp hd
    refine ⟨_, fun X' hb' => pgd_name hb' 3 (by simp) rfl, fun X' hb' => ?_⟩
    exact pp_call hb' tx.calm (f_part_of tx) (pl2 (pp_nm hb' rfl (pp_nm hb' rfl ⟨rfl, kd, x, rfl, diffs_near hv hu x hx, rfl⟩))) (Nat.le_add_left _ _)
theorem f_distance (tx : Tx W) : Df W 2 "distance" (spP W.K 3 S_distance) := d_distance (fun f fd F m bn => Df.mkP tx.calm F m c_distance rfl bn fun X hb ho ds R hl h => b_distance (k := 0) tx hb ho ds R hl h) tx.F_distance

/-! ### label_in, lets_by, passes -/
def S_label_in : Sg := fun ds R => ∃ (l : Lb) (n : Str), ds = [dLb l, .str n] ∧ R (.val (oI (look l n)))
theorem b_label_in (tx : Tx W) (hb : Bc W X ⟨k, n_label_in, defScope s_label_in, fun _ => true⟩) (ho : Own X) (ds : List D) (R : O → Prop) (_ : ds.length = 2) (h : S_label_in ds R) :
    WSs X (defBody s_label_in) (begin0 n_label_in 2 (ds.map Slot.v)) { nx := fun _ => R (.val .non), rt := R } := by
  obtain ⟨l, n, rfl, r⟩ := h
  refine wss_cut (fun Γ' => look l n = none) (ws_for hb ho (pit_tup (pp_nm hb rfl ⟨_, rfl, fun i Γ' => Γ' = [.v (dLb l), .v (.str n), .no, .no] ∧ look (l.take i) n = none, ⟨rfl, rfl⟩, fun Γ' h => ?_, fun i d Γ' hd h => ?_⟩))) fun Γ' h => ?_
  · have := h.2
    simpa using this
  · obtain ⟨rfl, hn⟩ := h
    rw [List.getElem?_map] at hd
    cases q : l[i]? with
    | none => rw [q] at hd; cases hd
    | some p =>
      rw [q] at hd
      cases hd
      obtain ⟨x, v⟩ := p
      have tk : l.take (i + 1) = l.take i ++ [(x, v)] := by rw [List.take_succ, q]; rfl
      refine pgd_tup hb (pgs_cons (pgd_name hb 2 trivial (pgs_cons (pgd_name hb 3 trivial (pgs_nil ?_)))))
      refine wss_cons (ws_if (pb_cmp (rd_nm hb rfl (rd_nm hb rfl (c_eqS (iD (fun e => ?_) fun e => wss_nil ?_))))))
      · refine wss_cons (ws_retP (pp_nm hb rfl ?_))
        subst e
        have : look l x = some v := by
          unfold look at hn ⊢
          have e2 : l = l.take (i + 1) ++ l.drop (i + 1) := (List.take_append_drop _ _).symm
          rw [e2, tk, List.append_assoc, List.find?_append]
          have hn' : (l.take i).find? (fun p => decide (p.1 = x)) = none := by simpa using hn
          rw [hn']
          simp
        rw [this] at r
        exact r
      · refine wss_end [2, 3] ⟨rfl, ?_⟩
        rw [tk]
        unfold look at hn ⊢
        rw [List.find?_append]
        have hn' : (l.take i).find? (fun p => decide (p.1 = n)) = none := by simpa using hn
        rw [hn']
        simp [e]
  · exact wss_cons (ws_retP (pp_non (by rw [h] at r; exact r)))
theorem f_label_in (tx : Tx W) : Df W 1 "label_in" (spP W.K 2 S_label_in) := d_label_in (fun f fd F m bn => Df.mkP tx.calm F m c_label_in rfl bn fun X hb ho ds R hl h => b_label_in tx hb ho ds R hl h) tx.F_label_in

def S_lets_by (n : Nat) : Sg := fun ds R => ∃ (s : Sv) (l : Lb), ds = [dSv s, dLb l] ∧ s.dep ≤ n ∧ R (.val (.bl (lets s l)))
theorem atI0 {α : Type} {x : α} {xs : List α} : atI (x :: xs) 0 = some x := atI_nat (n := 0) rfl
theorem atI1 {α : Type} {x y : α} {xs : List α} : atI (x :: y :: xs) 1 = some y := atI_nat (n := 1) rfl
theorem atI2 {α : Type} {x y z : α} {xs : List α} : atI (x :: y :: z :: xs) 2 = some z := atI_nat (n := 2) rfl
theorem atI3 {α : Type} {x y z w : α} {xs : List α} : atI (x :: y :: z :: w :: xs) 3 = some w := atI_nat (n := 3) rfl
/-- sieve[0] == word -/
theorem sv0 (hb : Bc W X ⟨k, n_lets_by, defScope s_lets_by, fun _ => true⟩) {x y : Str} {xs : List D} {l : D} {p p2 p3 p4 : Pos} {j j2} {T : Bool → Prop} (t : T (decide (x = y))) :
    PB X (.Compare (.Subscript (.Name "sieve" p) (.Constant (.int 0) j p2) p3) [.Eq] [.Constant (.str y) j2 p4] pos) (begin0 n_lets_by 2 ([.tup (.str x :: xs), l].map Slot.v)) T :=
  pb_cmp (PP.pr (pp_ix (pp_nm hb rfl (pp_int (ix_tp atI0 (rd_str (c_eqS t)))))))
theorem b_lets_by (n : Nat) (tx : Tx W) (rec : ∀ m, m < n → Df W (m + 2) "lets_by" (spP W.K 2 (S_lets_by m))) (hb : Bc W X ⟨n + 1, n_lets_by, defScope s_lets_by, fun _ => true⟩) (ho : Own X) (ds : List D) (R : O → Prop) (_ : ds.length = 2) (h : S_lets_by n ds R) :
    WSs X (defBody s_lets_by) (begin0 n_lets_by 2 (ds.map Slot.v)) { nx := fun _ => R (.val .non), rt := R } := by
  have gAll := tx.g_all
  have gAny := tx.g_any
  obtain ⟨s, l, rfl, hd, r⟩ := h
  cases s with
  | all =>
    refine wss_cons (ws_if (sv0 hb (iY rfl ?_)))
    exact wss_cons (ws_retP (pp_bl r))
  | not s =>
    refine wss_cons (ws_if (sv0 hb (iNo (by decide) (wss_nil ?_))))
    refine wss_cons (ws_if (sv0 hb (iY rfl ?_)))
    have hs : s.dep < n := hd
    exact wss_cons (ws_retP (pp_not (pp_call hb tx.calm (rec s.dep hs) (pl2 (pp_ix (pp_nm hb rfl (pp_int (ix_tp atI1 (pp_nm hb rfl ⟨rfl, s, l, rfl, Nat.le_refl _, _, rfl, r⟩)))))) (by show s.dep + 2 ≤ n + 1; omega))))
  | and a b =>
    refine wss_cons (ws_if (sv0 hb (iNo (by decide) (wss_nil ?_))))
    refine wss_cons (ws_if (sv0 hb (iNo (by decide) (wss_nil ?_))))
    refine wss_cons (ws_if (sv0 hb (iY rfl ?_)))
    have hs : max a.dep b.dep < n := hd
    refine wss_cons (ws_retP (pp_cl hb (id := "all") (pl1 (pp_lc hb tx.calm [("part", 2)] (pit_tup (pp_slT (pp_nm hb rfl ⟨_, rfl, pp_int ⟨1, rfl, ⟨_, rfl, ?_⟩⟩⟩)))))))
    rw [cut1]
    refine lp_mapB (bs := [a, b]) dSv (fun s => .bl (lets s l)) (Nat.le_trans (by simp) line1000) ?_ fun s hs2 => ?_
    · exact l_all hb (ns := [lets a l, lets b l]) (by simpa [lets] using r)
    · have hsd : s.dep < n := by
        have : s = a ∨ s = b := by simpa using hs2
        rcases this with rfl | rfl <;> omega
      refine ⟨_, fun X' hb' => pgd_name hb' 2 (by simp) rfl, fun X' hb' => ?_⟩
      exact pp_call hb' tx.calm (rec s.dep hsd) (pl2 (pp_nm hb' rfl (pp_nm hb' rfl ⟨rfl, s, l, rfl, Nat.le_refl _, rfl⟩))) (by show s.dep + 2 ≤ n + 1; omega)
  | or a b =>
    refine wss_cons (ws_if (sv0 hb (iNo (by decide) (wss_nil ?_))))
    refine wss_cons (ws_if (sv0 hb (iNo (by decide) (wss_nil ?_))))
    refine wss_cons (ws_if (sv0 hb (iNo (by decide) (wss_nil ?_))))
    refine wss_cons (ws_if (sv0 hb (iY rfl ?_)))
    have hs : max a.dep b.dep < n := hd
    refine wss_cons (ws_retP (pp_cl hb (id := "any") (pl1 (pp_lc hb tx.calm [("part", 2)] (pit_tup (pp_slT (pp_nm hb rfl ⟨_, rfl, pp_int ⟨1, rfl, ⟨_, rfl, ?_⟩⟩⟩)))))))
    rw [cut1]
    refine lp_mapB (bs := [a, b]) dSv (fun s => .bl (lets s l)) (Nat.le_trans (by simp) line1000) ?_ fun s hs2 => ?_
    · exact l_any hb (ns := [lets a l, lets b l]) (by simpa [lets] using r)
    · have hsd : s.dep < n := by
        have : s = a ∨ s = b := by simpa using hs2
        rcases this with rfl | rfl <;> omega
      refine ⟨_, fun X' hb' => pgd_name hb' 2 (by simp) rfl, fun X' hb' => ?_⟩
      exact pp_call hb' tx.calm (rec s.dep hsd) (pl2 (pp_nm hb' rfl (pp_nm hb' rfl ⟨rfl, s, l, rfl, Nat.le_refl _, rfl⟩))) (by show s.dep + 2 ≤ n + 1; omega)
  | has m =>
    refine wss_cons (ws_if (sv0 hb (iNo (by decide) (wss_nil ?_))))
    refine wss_cons (ws_if (sv0 hb (iNo (by decide) (wss_nil ?_))))
    refine wss_cons (ws_if (sv0 hb (iNo (by decide) (wss_nil ?_))))
    refine wss_cons (ws_if (sv0 hb (iNo (by decide) (wss_nil ?_))))
    refine wss_cons (ws_set hb 3 (po_call hb tx.calm (f_label_in tx) (pl2 (pp_nm hb rfl (pp_ix (pp_nm hb rfl (pp_int (ix_tp atI1 ⟨rfl, l, m, rfl, ?_⟩)))))) (Nat.le_add_left _ _)))
    have hr : R (.val (.bl (look l m).isSome)) := r
    cases hq : look l m with
    | none =>
      rw [hq] at hr
      exact wss_cons (ws_retP (pp_and (pp_cmp (rd_nm hb rfl (rd_non (c_notN ⟨_, rfl, iFF hr⟩))))))
    | some v =>
      rw [hq] at hr
      refine wss_cons (ws_retP (pp_and (pp_cmp (rd_nm hb rfl (rd_non (c_notN ⟨_, rfl, iTT ?_⟩))))))
      exact pp_one (pp_or (pp_cmp (PP.pr (pp_ix (pp_nm hb rfl (pp_int (ix_tp atI0 (rd_str (c_eqS ⟨_, rfl, iY rfl hr⟩)))))))))
  | inn m lo hi =>
    refine wss_cons (ws_if (sv0 hb (iNo (by decide) (wss_nil ?_))))
    refine wss_cons (ws_if (sv0 hb (iNo (by decide) (wss_nil ?_))))
    refine wss_cons (ws_if (sv0 hb (iNo (by decide) (wss_nil ?_))))
    refine wss_cons (ws_if (sv0 hb (iNo (by decide) (wss_nil ?_))))
    refine wss_cons (ws_set hb 3 (po_call hb tx.calm (f_label_in tx) (pl2 (pp_nm hb rfl (pp_ix (pp_nm hb rfl (pp_int (ix_tp atI1 ⟨rfl, l, m, rfl, ?_⟩)))))) (Nat.le_add_left _ _)))
    cases hq : look l m with
    | none =>
      have hr : R (.val (.bl false)) := by simpa [lets, hq] using r
      exact wss_cons (ws_retP (pp_and (pp_cmp (rd_nm hb rfl (rd_non (c_notN ⟨_, rfl, iFF hr⟩))))))
    | some v =>
      have hr : R (.val (.bl (decide (lo ≤ v) && decide (v ≤ hi)))) := by simpa [lets, hq] using r
      refine wss_cons (ws_retP (pp_and (pp_cmp (rd_nm hb rfl (rd_non (c_notN ⟨_, rfl, iTT ?_⟩))))))
      refine pp_one (pp_or (pp_cmp (PP.pr (pp_ix (pp_nm hb rfl (pp_int (ix_tp atI0 (rd_str (c_eqS ⟨_, rfl, iNo (by decide) ?_⟩)))))))))
      refine pp_one (pp_chain (pp_ix (pp_nm hb rfl (pp_int (ix_tp atI2 (pp_nm hb rfl (c_le (iD (fun e => ?_) fun e => ?_))))))))
      · refine pp_ix (pp_nm hb rfl (pp_int (ix_tp atI3 (c_le ?_))))
        simpa [e] using hr
      · simpa [e] using hr
theorem f_lets_by (tx : Tx W) : ∀ n, Df W (n + 2) "lets_by" (spP W.K 2 (S_lets_by n)) := by
  intro n
  induction n using Nat.strongRecOn with
  | ind n ih => exact d_lets_by (fun f fd F m bn => Df.mkP tx.calm F m c_lets_by rfl bn fun X hb ho ds R hl h => b_lets_by n tx ih hb ho ds R hl h) tx.F_lets_by
end T

namespace T
open PySem PySem.Spec L2 RZ Dn
variable {W : Wd} {X : Cx} {k : Nat}
def S_passes : Sg := fun ds R => ∃ (s : Sv) (it : Item), ds = [dSv s, dIt it] ∧ s.dep ≤ 4 ∧ R (.val (.bl (lets s it.2.2)))
theorem b_passes (tx : Tx W) (hb : Bc W X ⟨k + 6, n_passes, defScope s_passes, fun _ => true⟩) (ho : Own X) (ds : List D) (R : O → Prop) (_ : ds.length = 2) (h : S_passes ds R) :
    WSs X (defBody s_passes) (begin0 n_passes 2 (ds.map Slot.v)) { nx := fun _ => R (.val .non), rt := R } := by
  obtain ⟨s, it, rfl, hd, r⟩ := h
  exact wss_cons (ws_ret (po_call hb tx.calm (f_lets_by tx 4) (pl2 (pp_nm hb rfl (pp_ix (pp_nm hb rfl (pp_int (ix_tp atI2 ⟨rfl, s, it.2.2, rfl, hd, r⟩)))))) (by show 6 ≤ k + 6; omega)))
theorem f_passes (tx : Tx W) : Df W 7 "passes" (spP W.K 2 S_passes) := d_passes (fun f fd F m bn => Df.mkP tx.calm F m c_passes rfl bn fun X hb ho ds R hl h => b_passes (k := 0) tx hb ho ds R hl h) tx.F_passes

inductive Deed where
  | put (it : Item) | take (k : Int)
def dDe : Deed → D
  | .put it => .tup [.str "put", dIt it]
  | .take k => .tup [.str "take", .int k]
def Deed.key : Deed → Int
  | .put it => it.1
  | .take k => k
def S_deed_key : Sg := fun ds R => ∃ d : Deed, ds = [dDe d] ∧ R (.val (.int d.key))
theorem b_deed_key (hb : Bc W X ⟨k, n_deed_key, defScope s_deed_key, fun _ => true⟩) (ho : Own X) (ds : List D) (R : O → Prop) (_ : ds.length = 1) (h : S_deed_key ds R) :
    WSs X (defBody s_deed_key) (begin0 n_deed_key 1 (ds.map Slot.v)) { nx := fun _ => R (.val .non), rt := R } := by
  obtain ⟨d, rfl, r⟩ := h
  cases d with
  | put it => exact wss_cons <| ws_retP <| pp_if <| pb_eS <| pp_nt hb rfl atI0 ⟨_, rfl, iY rfl <| pp_ti <| pp_nt hb rfl atI1 ⟨_, _, rfl, atI0, r⟩⟩
  | take j => exact wss_cons <| ws_retP <| pp_if <| pb_eS <| pp_nt hb rfl atI0 ⟨_, rfl, iNo (by decide) <| pp_nt hb rfl atI1 r⟩
theorem f_deed_key (tx : Tx W) : Df W 1 "deed_key" (spP W.K 1 S_deed_key) := d_deed_key (fun f fd F m bn => Df.mkP tx.calm F m c_deed_key rfl bn fun X hb ho ds R hl h => b_deed_key (k := 0) hb ho ds R hl h) tx.F_deed_key

/-! ### states -/
abbrev enS (st : List Item) : List (Key × D) := st.map fun it => (.inl it.1, dIt it)
def dSt (st : List Item) : D := .dic (enS st)
def Keyed (st : List Item) : Prop := (st.map (·.1)).Nodup
def doneS (st : List Item) : Deed → List Item
  | .put it => st.filter (fun x => decide (x.1 ≠ it.1)) ++ [it]
  | .take j => st.filter fun x => decide (x.1 ≠ j)
theorem enS_none {st : List Item} {j : Int} (h : ∀ it ∈ st, it.1 ≠ j) : dGet (enS st) (.inl j) = none := by
  unfold dGet enS
  rw [Option.map_eq_none_iff, List.find?_eq_none]
  intro p hp
  obtain ⟨it, h1, rfl⟩ := List.mem_map.mp hp
  simpa using h it h1
theorem enS_some {st : List Item} (hk : Keyed st) {it : Item} (h : it ∈ st) : dGet (enS st) (.inl it.1) = some (dIt it) := by
  induction st with
  | nil => cases h
  | cons x st ih =>
    have hk' : x.1 ∉ st.map (·.1) ∧ (st.map (·.1)).Nodup := by simpa [Keyed] using hk
    rcases List.mem_cons.mp h with e | h'
    · subst e
      simp [dGet, enS]
    · have ne : x.1 ≠ it.1 := fun e => hk'.1 (e ▸ List.mem_map.mpr ⟨it, h', rfl⟩)
      have := ih hk'.2 h'
      simp only [dGet, enS, List.map_cons, List.find?_cons] at this ⊢
      have e : decide ((Sum.inl x.1 : Key) = Sum.inl it.1) = false := by simp [ne]
      rw [e]
      exact this
theorem put_new {st : List Item} {it : Item} (h : ∀ x ∈ st, x.1 ≠ it.1) : dPut (enS st) (.inl it.1) (dIt it) = enS (st ++ [it]) := by
  unfold dPut
  have : ((enS st).any fun kv => decide (kv.1 = (.inl it.1 : Key))) = false := by
    rw [List.any_eq_false]
    intro p hp
    obtain ⟨x, h1, rfl⟩ := List.mem_map.mp hp
    simpa using h x h1
  rw [this]
  simp [enS]
theorem items_enS (st : List Item) : itemsD (enS st) = st.map fun it => .tup [.int it.1, dIt it] := by
  unfold itemsD enS
  rw [List.map_map]
  rfl
theorem Keyed.filter {st : List Item} (h : Keyed st) (p : Item → Bool) : Keyed (st.filter p) := List.Nodup.sublist (List.Sublist.map _ (List.filter_sublist (l := st) (p := p))) h
theorem Keyed.take {st : List Item} (h : Keyed st) (n : Nat) : Keyed (st.take n) := List.Nodup.sublist (List.Sublist.map _ (List.take_sublist n st)) h
theorem Keyed.before {st : List Item} (h : Keyed st) {i : Nat} {it : Item} (e : st[i]? = some it) : ∀ x ∈ st.take i, x.1 ≠ it.1 := by
  intro x hx z
  have tk : st.take (i + 1) = st.take i ++ [it] := by rw [List.take_succ, e]; rfl
  have := h.take (i + 1)
  unfold Keyed at this
  rw [tk, List.map_append, List.nodup_append] at this
  exact this.2.2 x.1 (List.mem_map.mpr ⟨x, hx, rfl⟩) it.1 (by simp) z
/-- the dict of those that a test lets through -/
theorem dc_items {bx : Bx} {scope : Scope} {tg tst kx vx : Expr} {Γ : List Slot} {vs : List Nat} {R : O → Prop} {st : List Item} (p : Item → Bool) (hk : Keyed st) (hz : st.length ≤ sizeLine) (r : R (O.dc (enS (st.filter p))))
    (hx : ∀ it ∈ st, ∃ Γ2, (∀ X', Bc W X' (bx.blk scope) → PGd X' tg (.tup [.int it.1, dIt it]) (wipeG Γ vs) (· ∈ vs) fun z => z = Γ2) ∧ (∀ X', Bc W X' (bx.blk scope) → PB X' tst Γ2 fun k => k = p it) ∧
      (∀ X', Bc W X' (bx.blk scope) → PP X' kx Γ2 fun d => d = .int it.1) ∧ ∀ X', Bc W X' (bx.blk scope) → PP X' vx Γ2 fun d => d = dIt it) : DcOk W bx scope tg [tst] kx vx Γ vs R (itemsD (enS st)) := by
  rw [items_enS]
  refine ⟨by simpa using hz, fun i acc => acc = enS ((st.take i).filter p), by simp, fun acc e => ?_, fun i d acc hd e hl => ?_⟩
  · subst e
    simpa using r
  · rw [List.getElem?_map] at hd
    cases q : st[i]? with
    | none => rw [q] at hd; cases hd
    | some it =>
      rw [q] at hd
      cases hd
      obtain ⟨Γ2, h1, h2, h3, h4⟩ := hx it (List.mem_of_getElem? q)
      have tk : st.take (i + 1) = st.take i ++ [it] := by rw [List.take_succ, q]; rfl
      have e' : acc = enS ((st.take i).filter p) := e
      refine ⟨Γ2, h1, fun k => k = p it, fun X' hb => pts_1 (h2 X' hb), fun z => ?_, fun z => ⟨fun k => k = .inl it.1, fun X' hb => (h3 X' hb).imp fun d ed => ⟨.inl it.1, ed, rfl⟩, fun k ek X' hb => (h4 X' hb).imp fun d ed => ?_⟩⟩
      · have z' : false = p it := z
        show acc = enS ((st.take (i + 1)).filter p)
        rw [e', tk, List.filter_append]
        simp [← z']
      · have z' : true = p it := z
        have ek' : k = .inl it.1 := ek
        subst ek' ed
        show dPut acc (.inl it.1) (dIt it) = enS ((st.take (i + 1)).filter p)
        rw [e', put_new fun x hx => hk.before q x (List.mem_filter.mp hx).1, tk, List.filter_append]
        simp [← z']
def S_done : Sg := fun ds R => ∃ (st : List Item) (d : Deed), ds = [dSt st, dDe d] ∧ Keyed st ∧ st.length ≤ 100000 ∧ R (O.dc (enS (doneS st d)))
theorem line6 : (100000 : Nat) < sizeLine := by rw [sizeLine_eq]; decide
theorem b_done (tx : Tx W) (hb : Bc W X ⟨k + 1, n_done, defScope s_done, fun _ => true⟩) (ho : Own X) (ds : List D) (R : O → Prop) (_ : ds.length = 2) (h : S_done ds R) :
    WSs X (defBody s_done) (begin0 n_done 2 (ds.map Slot.v)) { nx := fun _ => R (.val .non), rt := R } := by
  obtain ⟨st, d, rfl, hk, hz, r⟩ := h
  have hl := line6
  refine wss_cons (ws_set hb 2 (po_call hb tx.calm (f_deed_key tx) (pl1 (pp_nm hb rfl ⟨rfl, d, rfl, ?_⟩)) (by show 1 ≤ k + 1; omega)))
  refine wss_cons (ws_lock 0 rfl (ws_setDc hb tx.calm [("other", 4), ("item", 5)] 3 (pitc_items hb 0 ?_)))
  refine dc_items (fun x => decide (x.1 ≠ d.key)) hk (by omega) ?_ fun it hit => ?_
  · have hlen : (st.filter fun x => decide (x.1 ≠ d.key)).length ≤ st.length := List.length_filter_le _ _
    cases d with
    | put it =>
      refine wss_cons <| ws_if <| pb_eS <| pp_nt hb rfl atI0 ⟨_, rfl, iY rfl ?_⟩
      refine wss_cons <| ws_dput hb 3 rfl <| pp_nt hb rfl atI1 <| pp_nm hb rfl ⟨.inl it.1, rfl, by simp only [List.length_map]; omega, ?_⟩
      refine wss_nil <| wss_cons <| ws_retO hb 3 rfl ?_
      rw [put_new (st := st.filter fun x => decide (x.1 ≠ (Deed.put it).key)) (it := it) fun x hx => of_decide_eq_true (List.mem_filter.mp hx).2]
      exact r
    | take j =>
      refine wss_cons <| ws_if <| pb_eS <| pp_nt hb rfl atI0 ⟨_, rfl, iNo (by decide) <| wss_nil ?_⟩
      exact wss_cons <| ws_retO hb 3 rfl r
  · refine ⟨_, fun X' hb' => pgd_tup hb' (pgs_cons (pgd_name hb' 4 (by simp) (pgs_cons (pgd_name hb' 5 (by simp) (pgs_nil rfl))))), fun X' hb' => ?_, fun X' hb' => pp_nm hb' rfl rfl, fun X' hb' => pp_nm hb' rfl rfl⟩
    exact pb_cmp (rd_nm hb' rfl (rd_nm hb' rfl (c_neI (by simp))))
theorem f_done (tx : Tx W) : Df W 2 "done" (spP W.K 2 S_done) := d_done (fun f fd F m bn => Df.mkP tx.calm F m c_done rfl bn fun X hb ho ds R hl h => b_done (k := 0) tx hb ho ds R hl h) tx.F_done
end T

namespace T
open PySem PySem.Spec L2 RZ Dn
variable {W : Wd} {X : Cx} {k : Nat}
theorem szN {n : Nat} (h : n ≤ 1000) : n ≤ sizeLine := Nat.le_trans h line1000
theorem doneS_keyed {st : List Item} (h : Keyed st) (d : Deed) : Keyed (doneS st d) := by
  cases d with
  | take j => exact h.filter _
  | put it =>
    show ((st.filter (fun x => decide (x.1 ≠ it.1)) ++ [it]).map (·.1)).Nodup
    rw [List.map_append, List.nodup_append]
    refine ⟨h.filter _, by simp, fun a ha b hb z => ?_⟩
    obtain ⟨x, hx, rfl⟩ := List.mem_map.mp ha
    have e : b = it.1 := by simpa using hb
    exact of_decide_eq_true (List.mem_filter.mp hx).2 (z.trans e)
theorem doneS_len (st : List Item) (d : Deed) : (doneS st d).length ≤ st.length + 1 := by
  cases d with
  | take j => exact Nat.le_succ_of_le (List.length_filter_le _ _)
  | put it =>
    show (st.filter (fun x => decide (x.1 ≠ it.1)) ++ [it]).length ≤ _
    rw [List.length_append]
    have := List.length_filter_le (fun x : Item => decide (x.1 ≠ it.1)) st
    exact Nat.add_le_add_right this 1
def doneAll (st : List Item) (ds : List Deed) : List Item := ds.foldl doneS st
theorem doneAll_ok {st : List Item} (h : Keyed st) : ∀ ds : List Deed, Keyed (doneAll st ds) ∧ (doneAll st ds).length ≤ st.length + ds.length := by
  intro ds
  induction ds generalizing st with
  | nil => exact ⟨h, Nat.le_refl _⟩
  | cons d ds ih =>
    obtain ⟨h1, h2⟩ := ih (doneS_keyed h d)
    have := doneS_len st d
    refine ⟨h1, ?_⟩
    simp only [List.length_cons]
    show (doneAll (doneS st d) ds).length ≤ _
    omega
def S_done_all : Sg := fun xs R => ∃ (st : List Item) (ds : List Deed), (xs = [dSt st, .lst (ds.map dDe)] ∨ xs = [dSt st, .tup (ds.map dDe)]) ∧ Keyed st ∧ st.length + ds.length ≤ 50000 ∧ R (.val (dSt (doneAll st ds)))
theorem b_done_all (tx : Tx W) (hb : Bc W X ⟨k + 2, n_done_all, defScope s_done_all, fun _ => true⟩) (ho : Own X) (xs : List D) (R : O → Prop) (_ : xs.length = 2) (h : S_done_all xs R) :
    WSs X (defBody s_done_all) (begin0 n_done_all 2 (xs.map Slot.v)) { nx := fun _ => R (.val .non), rt := R } := by
  have gd := tx.g_dict
  obtain ⟨st, ds, e, hk, hz, r⟩ := h
  have loop : ∀ (Y : D), (xs = [dSt st, Y] ∧ ∀ (L : List D → Prop) (X : Cx) (Γ : List Slot) (tg a : Expr), PP X a Γ (fun d => d = Y) → L (ds.map dDe) → PIt X tg a Γ L) →
      WSs X (defBody s_done_all) (begin0 n_done_all 2 (xs.map Slot.v)) { nx := fun _ => R (.val .non), rt := R } := fun Y ⟨e, it⟩ => by
    subst e
    refine wss_cons <| ws_set hb 2 <| po_dcopy hb <| pp_nm hb rfl ⟨_, rfl, ?_⟩
    refine wss_frz 2 rfl ?_
    rw [toD_dc]
    refine wss_cons <| ws_for hb ho <| it _ X _ _ _ (pp_nm hb rfl rfl) ⟨fun i Γ' => Γ' = [.v (dSt st), .v Y, .v (dSt (doneAll st (ds.take i))), .no], rfl, fun Γ' h => ?_, fun i d Γ' hd h => ?_⟩
    · subst h
      refine wss_cons <| ws_retP <| pp_nm hb rfl ?_
      simpa using r
    · subst h
      rw [List.getElem?_map] at hd
      cases q : ds[i]? with
      | none => rw [q] at hd; cases hd
      | some dd =>
        rw [q] at hd
        cases hd
        have hi : i < ds.length := (List.getElem?_eq_some_iff.mp q).1
        obtain ⟨k1, k2⟩ := doneAll_ok hk (ds.take i)
        refine pgd_name hb 3 trivial ?_
        refine wss_cons <| ws_set hb 2 <| po_call hb tx.calm (f_done tx) (pl2 <| pp_nm hb rfl <| pp_nm hb rfl ⟨rfl, _, dd, rfl, k1, ?_, ?_⟩) (by show 2 ≤ k + 2; omega)
        · rw [List.length_take] at k2
          omega
        · refine wss_frz 2 rfl ?_
          rw [toD_dc]
          refine wss_end [3] ?_
          have tk : ds.take (i + 1) = ds.take i ++ [dd] := by rw [List.take_succ, q]; rfl
          have ee : doneAll st (ds.take (i + 1)) = doneS (doneAll st (ds.take i)) dd := by
            rw [tk]
            unfold doneAll
            rw [List.foldl_append]
            rfl
          show _ = [Slot.v (dSt st), Slot.v Y, Slot.v (dSt (doneAll st (ds.take (i + 1)))), Slot.no]
          rw [ee]
          rfl
  rcases e with e | e
  · exact loop _ ⟨e, fun L X Γ tg a h l => pit_lst (h.imp fun d ed => ⟨_, ed, l⟩)⟩
  · exact loop _ ⟨e, fun L X Γ tg a h l => pit_tup (h.imp fun d ed => ⟨_, ed, l⟩)⟩
theorem f_done_all (tx : Tx W) : Df W 3 "done_all" (spP W.K 2 S_done_all) := d_done_all (fun f fd F m bn => Df.mkP tx.calm F m c_done_all rfl bn fun X hb ho ds R hl h => b_done_all (k := 0) tx hb ho ds R hl h) tx.F_done_all

def S_state_of : Sg := fun xs R => ∃ its : List Item, xs = [.tup (its.map dIt)] ∧ its.length ≤ 50000 ∧ R (.val (dSt (doneAll [] (its.map Deed.put))))
theorem b_state_of (tx : Tx W) (hb : Bc W X ⟨k + 3, n_state_of, defScope s_state_of, fun _ => true⟩) (ho : Own X) (xs : List D) (R : O → Prop) (_ : xs.length = 1) (h : S_state_of xs R) :
    WSs X (defBody s_state_of) (begin0 n_state_of 1 (xs.map Slot.v)) { nx := fun _ => R (.val .non), rt := R } := by
  obtain ⟨its, rfl, hz, r⟩ := h
  have hl := line6
  refine wss_cons <| ws_ret <| po_call hb tx.calm (f_done_all tx) (pl2 <| PO.pp <| po_dnew <| pp_lc hb tx.calm [("item", 1)] <| pit_tup <| pp_nm hb rfl ⟨_, rfl, ?_⟩) (by show 3 ≤ k + 3; omega)
  refine lp_mapB dIt (fun it => dDe (.put it)) (by omega) ⟨rfl, [], its.map Deed.put, .inl ?_, by simp [Keyed], by simpa using hz, r⟩ fun it hit => ?_
  · rw [toD_dc, List.map_map]
    rfl
  · refine ⟨_, fun X' hb' => pgd_name hb' 1 (by simp) rfl, fun X' hb' => ?_⟩
    exact pp_tup <| pl2 <| pp_str <| pp_nm hb' rfl ⟨szN (by simp), rfl⟩
theorem f_state_of (tx : Tx W) : Df W 4 "state_of" (spP W.K 1 S_state_of) := d_state_of (fun f fd F m bn => Df.mkP tx.calm F m c_state_of rfl bn fun X hb ho ds R hl h => b_state_of (k := 0) tx hb ho ds R hl h) tx.F_state_of

/-! ### passing_keys, pairs_from and what is cut from them -/
def keysOf (st : List Item) (s : Sv) : List Int := (st.filter fun it => lets s it.2.2).map (·.1)
def S_passing_keys : Sg := fun xs R => ∃ (st : List Item) (s : Sv), xs = [dSt st, dSv s] ∧ st.length ≤ 50000 ∧ s.dep ≤ 4 ∧ R (.val (.tup (((keysOf st s).mergeSort leI).map .int)))
theorem b_passing_keys (tx : Tx W) (hb : Bc W X ⟨k + 7, n_passing_keys, defScope s_passing_keys, fun _ => true⟩) (ho : Own X) (xs : List D) (R : O → Prop) (_ : xs.length = 2) (h : S_passing_keys xs R) :
    WSs X (defBody s_passing_keys) (begin0 n_passing_keys 2 (xs.map Slot.v)) { nx := fun _ => R (.val .non), rt := R } := by
  have g1 := tx.g_tuple
  have g2 := tx.g_sorted
  obtain ⟨st, s, rfl, hz, hd, r⟩ := h
  have hl := line6
  refine wss_cons <| ws_retP <| pp_ty hb (id := "tuple") <| pl1 <| pp_cl hb (id := "sorted") <| pl1 <| pp_lcI hb tx.calm [("key", 2), ("item", 3)] 0 rfl <| pitc_items hb 0 ?_
  rw [items_enS]
  refine lp_filterB (fun it : Item => D.tup [.int it.1, dIt it]) (fun it => lets s it.2.2) (fun it => .int it.1) (by omega) ?_ fun it hit => ?_
  · have e : (st.filter fun it => lets s it.2.2).map (fun it => D.int it.1) = (keysOf st s).map D.int := by simp [keysOf]
    rw [e]
    exact l_sortJ hb (l_tuple r)
  · refine ⟨_, fun X' hb' => pgd_tup hb' (pgs_cons (pgd_name hb' 2 (by simp) (pgs_cons (pgd_name hb' 3 (by simp) (pgs_nil rfl))))), fun X' hb' => ?_, fun _ X' hb' => pp_nm hb' rfl rfl⟩
    exact pb_val <| pp_call hb' tx.calm (f_passes tx) (pl2 <| pp_nm hb' rfl <| pp_nm hb' rfl ⟨rfl, s, it, rfl, hd, _, rfl, rfl⟩) (by show 7 ≤ k + 7; omega)
theorem f_passing_keys (tx : Tx W) : Df W 8 "passing_keys" (spP W.K 2 S_passing_keys) := d_passing_keys (fun f fd F m bn => Df.mkP tx.calm F m c_passing_keys rfl bn fun X hb ho ds R hl h => b_passing_keys (k := 0) tx hb ho ds R hl h) tx.F_passing_keys
end T

namespace T
open PySem PySem.Spec L2 RZ Dn
variable {W : Wd} {X : Cx} {k : Nat}
def vecOf (st : List Item) (j : Int) : List Int := match st.find? fun it => decide (it.1 = j) with
  | some it => it.2.1
  | none => []
theorem vecOf_mem {st : List Item} (hk : Keyed st) {it : Item} (h : it ∈ st) : vecOf st it.1 = it.2.1 := by
  unfold vecOf
  cases q : st.find? fun x => decide (x.1 = it.1) with
  | none => exact absurd (List.find?_eq_none.mp q it h) (by simp)
  | some x =>
    have h1 := List.mem_of_find?_eq_some q
    have h2 : x.1 = it.1 := by simpa using List.find?_some q
    have e1 := enS_some hk h1
    have e2 := enS_some hk h
    rw [h2, e2] at e1
    have e3 := Option.some.inj e1
    have : x.2.1 = it.2.1 := by
      simp only [dIt, dV, D.tup.injEq, List.cons.injEq] at e3
      obtain ⟨_, e4, _⟩ := e3
      exact (List.map_inj_right (fun a b h => by simpa using h)).mp e4.symm
    exact this
def prs (st : List Item) (kd : Str) (v : List Int) (s : Sv) : List (Int × Int) := (((keysOf st s).mergeSort leI).map fun j => (dist kd v (vecOf st j), j)).mergeSort lePr
structure Good (st : List Item) (v : List Int) (s : Sv) : Prop where
  keyed : Keyed st
  len : st.length ≤ 50000
  dep : s.dep ≤ 4
  vl : v.length ≤ 1000
  vn : Near v
  its : ∀ it ∈ st, Near it.2.1
def S_pairs_from : Sg := fun xs R => ∃ (st : List Item) (kd : Str) (v : List Int) (s : Sv), xs = [dSt st, .str kd, dV v, dSv s] ∧ Good st v s ∧ R (.val (.tup ((prs st kd v s).map dPr)))
theorem b_pairs_from (tx : Tx W) (hb : Bc W X ⟨k + 8, n_pairs_from, defScope s_pairs_from, fun _ => true⟩) (ho : Own X) (xs : List D) (R : O → Prop) (_ : xs.length = 4) (h : S_pairs_from xs R) :
    WSs X (defBody s_pairs_from) (begin0 n_pairs_from 4 (xs.map Slot.v)) { nx := fun _ => R (.val .non), rt := R } := by
  have g1 := tx.g_tuple
  have g2 := tx.g_sorted
  obtain ⟨st, kd, v, s, rfl, G, r⟩ := h
  have hl := line6
  have hz := G.len
  refine wss_cons <| ws_set hb 4 <| po_call hb tx.calm (f_passing_keys tx) (pl2 <| pp_nm hb rfl <| pp_nm hb rfl ⟨rfl, st, s, rfl, G.len, G.dep, ?_⟩) (by show 8 ≤ k + 8; omega)
  refine wss_cons <| ws_retP <| pp_ty hb (id := "tuple") <| pl1 <| pp_cl hb (id := "sorted") <| pl1 <| pp_lc hb tx.calm [("key", 5)] <| pit_tup <| pp_nm hb rfl ⟨_, rfl, ?_⟩
  refine lp_mapB D.int (fun j => dPr (dist kd v (vecOf st j), j)) ?_ ?_ fun j hj => ?_
  · have : (keysOf st s).length ≤ st.length := by
      unfold keysOf
      rw [List.length_map]
      exact List.length_filter_le _ _
    rw [List.length_mergeSort]
    omega
  · have e : ((keysOf st s).mergeSort leI).map (fun j => dPr (dist kd v (vecOf st j), j)) = (((keysOf st s).mergeSort leI).map fun j => (dist kd v (vecOf st j), j)).map dPr := by
      rw [List.map_map]
      rfl
    rw [e]
    exact l_sortP hb (l_tuple r)
  · obtain ⟨it, h1, rfl⟩ : ∃ it ∈ st, it.1 = j := by
      have := (List.mergeSort_perm (keysOf st s) leI).mem_iff.mp hj
      obtain ⟨it, h1, h2⟩ := List.mem_map.mp this
      exact ⟨it, (List.mem_filter.mp h1).1, h2⟩
    refine ⟨_, fun X' hb' => pgd_name hb' 5 (by simp) rfl, fun X' hb' => ?_⟩
    refine pp_tup <| pl2 <| pp_call hb' tx.calm (f_distance tx) (pl3 <| pp_nm hb' rfl <| pp_nm hb' rfl <| pp_ti <| pp_ix <| pp_nm hb' rfl <| pp_nm hb' rfl <| ix_dic hb' (k := .inl it.1) (enS_some G.keyed h1) ⟨_, _, rfl, atI1, ⟨rfl, kd, v, it.2.1, rfl, G.vl, G.vn, G.its it h1, ?_⟩⟩) (by show 2 ≤ k + 8; omega)
    refine pp_nm hb' rfl ⟨szN (by simp), ?_⟩
    rw [vecOf_mem G.keyed h1]
    rfl
theorem f_pairs_from (tx : Tx W) : Df W 9 "pairs_from" (spP W.K 4 S_pairs_from) := d_pairs_from (fun f fd F m bn => Df.mkP tx.calm F m c_pairs_from rfl bn fun X hb ho ds R hl h => b_pairs_from (k := 0) tx hb ho ds R hl h) tx.F_pairs_from

def dQ (kd : Str) (v : List Int) (n : Nat) (s : Sv) : D := .tup [.str kd, dV v, .int n, dSv s]
def S_nearest : Sg := fun xs R => ∃ (st : List Item) (kd : Str) (v : List Int) (n : Nat) (s : Sv), xs = [dSt st, dQ kd v n s] ∧ Good st v s ∧ R (.val (.tup (((prs st kd v s).take n).map dPr)))
theorem b_nearest (tx : Tx W) (hb : Bc W X ⟨k + 9, n_nearest, defScope s_nearest, fun _ => true⟩) (ho : Own X) (xs : List D) (R : O → Prop) (_ : xs.length = 2) (h : S_nearest xs R) :
    WSs X (defBody s_nearest) (begin0 n_nearest 2 (xs.map Slot.v)) { nx := fun _ => R (.val .non), rt := R } := by
  obtain ⟨st, kd, v, n, s, rfl, G, r⟩ := h
  refine wss_cons <| ws_asg <| pp_nm hb rfl <| pgd_tup hb <| pgs_cons <| pgd_name hb 2 trivial <| pgs_cons <| pgd_name hb 3 trivial <| pgs_cons <| pgd_name hb 4 trivial <| pgs_cons <| pgd_name hb 5 trivial <| pgs_nil ?_
  refine wss_cons <| ws_retP <| pp_slT <| pp_call hb tx.calm (f_pairs_from tx) (pl4 <| pp_nm hb rfl <| pp_nm hb rfl <| pp_nm hb rfl <| pp_nm hb rfl ⟨rfl, st, kd, v, s, rfl, G, _, rfl, ?_⟩) (by show 9 ≤ k + 9; omega)
  refine pp_nm hb rfl ⟨n, rfl, ?_⟩
  show R (O.val (D.tup (cutD _ none (some (n : Int)))))
  rw [cutTo, ← List.map_take]
  exact r
theorem f_nearest (tx : Tx W) : Df W 10 "nearest" (spP W.K 2 S_nearest) := d_nearest (fun f fd F m bn => Df.mkP tx.calm F m c_nearest rfl bn fun X hb ho ds R hl h => b_nearest (k := 0) tx hb ho ds R hl h) tx.F_nearest

theorem prs_len (st : List Item) (kd : Str) (v : List Int) (s : Sv) : (prs st kd v s).length ≤ st.length := by
  unfold prs keysOf
  simp only [List.length_mergeSort, List.length_map]
  exact List.length_filter_le _ _
def S_within : Sg := fun xs R => ∃ (st : List Item) (kd : Str) (v : List Int) (reach : Int) (s : Sv), xs = [dSt st, .str kd, dV v, .int reach, dSv s] ∧ Good st v s ∧ R (.val (.tup (((prs st kd v s).filter fun p => decide (p.1 ≤ reach)).map dPr)))
theorem pl5 {bx : Bx} {Γ : List Slot} {a b c d e : Expr} {L : List D → Prop} (h : PP X a Γ fun d1 => PL X [b, c, d, e] Γ fun ds => L (d1 :: ds)) (hs : starEach [a, b, c, d, e] X.env = (false, eval a X.env) :: starEach [b, c, d, e] X.env := by rfl) : PL X [a, b, c, d, e] Γ L := pl_cons h hs
theorem b_within (tx : Tx W) (hb : Bc W X ⟨k + 9, n_within, defScope s_within, fun _ => true⟩) (ho : Own X) (xs : List D) (R : O → Prop) (_ : xs.length = 5) (h : S_within xs R) :
    WSs X (defBody s_within) (begin0 n_within 5 (xs.map Slot.v)) { nx := fun _ => R (.val .non), rt := R } := by
  have g1 := tx.g_tuple
  obtain ⟨st, kd, v, reach, s, rfl, G, r⟩ := h
  have hl := line6
  have hz := G.len
  have hp := prs_len st kd v s
  refine wss_cons <| ws_retP <| pp_ty hb (id := "tuple") <| pl1 <| pp_lc hb tx.calm [("pair", 5)] <| pit_tup <| pp_call hb tx.calm (f_pairs_from tx) (pl4 <| pp_nm hb rfl <| pp_nm hb rfl <| pp_nm hb rfl <| pp_nm hb rfl ⟨rfl, st, kd, v, s, rfl, G, _, rfl, ?_⟩) (by show 9 ≤ k + 9; omega)
  refine lp_filterB dPr (fun p => decide (p.1 ≤ reach)) dPr (by omega) (l_tuple r) fun p hp => ?_
  refine ⟨_, fun X' hb' => pgd_name hb' 5 (by simp) rfl, fun X' hb' => ?_, fun _ X' hb' => pp_nm hb' rfl rfl⟩
  exact pb_leI <| pp_nt hb' rfl atI0 ⟨_, rfl, pp_nm hb' rfl ⟨_, rfl, rfl⟩⟩
theorem f_within (tx : Tx W) : Df W 10 "within" (spP W.K 5 S_within) := d_within (fun f fd F m bn => Df.mkP tx.calm F m c_within rfl bn fun X hb ho ds R hl h => b_within (k := 0) tx hb ho ds R hl h) tx.F_within
def S_count_within : Sg := fun xs R => ∃ (st : List Item) (kd : Str) (v : List Int) (reach : Int) (s : Sv), xs = [dSt st, .str kd, dV v, .int reach, dSv s] ∧ Good st v s ∧ R (.val (.int ((prs st kd v s).filter fun p => decide (p.1 ≤ reach)).length))
theorem b_count_within (tx : Tx W) (hb : Bc W X ⟨k + 10, n_count_within, defScope s_count_within, fun _ => true⟩) (ho : Own X) (xs : List D) (R : O → Prop) (_ : xs.length = 5) (h : S_count_within xs R) :
    WSs X (defBody s_count_within) (begin0 n_count_within 5 (xs.map Slot.v)) { nx := fun _ => R (.val .non), rt := R } := by
  have g1 := tx.g_len
  obtain ⟨st, kd, v, reach, s, rfl, G, r⟩ := h
  refine wss_cons <| ws_retP <| pp_cl hb (id := "len") <| pl1 <| pp_call hb tx.calm (f_within tx) (pl_cons <| pp_nm hb rfl <| pl4 <| pp_nm hb rfl <| pp_nm hb rfl <| pp_nm hb rfl <| pp_nm hb rfl ⟨rfl, st, kd, v, reach, s, rfl, G, t_len ?_⟩) (by show 10 ≤ k + 10; omega)
  simpa using r
theorem f_count_within (tx : Tx W) : Df W 11 "count_within" (spP W.K 5 S_count_within) := d_count_within (fun f fd F m bn => Df.mkP tx.calm F m c_count_within rfl bn fun X hb ho ds R hl h => b_count_within (k := 0) tx hb ho ds R hl h) tx.F_count_within

/-- the n-th pair's distance, if there are n -/
def reachV (ps : List (Int × Int)) (n : Nat) : D := match ps[n - 1]? with
  | some p => .int p.1
  | none => .non
def S_reach_of : Sg := fun xs R => ∃ (st : List Item) (kd : Str) (v : List Int) (n : Nat) (s : Sv), xs = [dSt st, dQ kd v n s] ∧ Good st v s ∧ 1 ≤ n ∧ R (.val (reachV (prs st kd v s) n))
theorem atI_neg1 {α : Type} {xs : List α} {x : α} (h : xs[xs.length - 1]? = some x) : atI xs (-1) = some x := by
  have hl := (List.getElem?_eq_some_iff.mp h).1
  unfold atI ixN
  rw [if_neg (by omega), if_pos (by omega)]
  have e : (-1 + (xs.length : Int)).toNat = xs.length - 1 := by omega
  show xs[_]? = _
  rw [e]
  exact h
theorem b_reach_of (tx : Tx W) (hb : Bc W X ⟨k + 10, n_reach_of, defScope s_reach_of, fun _ => true⟩) (ho : Own X) (xs : List D) (R : O → Prop) (_ : xs.length = 2) (h : S_reach_of xs R) :
    WSs X (defBody s_reach_of) (begin0 n_reach_of 2 (xs.map Slot.v)) { nx := fun _ => R (.val .non), rt := R } := by
  have g1 := tx.g_len
  obtain ⟨st, kd, v, n, s, rfl, G, hn, r⟩ := h
  refine wss_cons <| ws_set hb 2 <| po_call hb tx.calm (f_nearest tx) (pl2 <| pp_nm hb rfl <| pp_nm hb rfl ⟨rfl, st, kd, v, n, s, rfl, G, ?_⟩) (by show 10 ≤ k + 10; omega)
  refine wss_cons <| ws_retP <| pp_if <| pb_eI <| pp_cl hb (id := "len") <| pl1 <| pp_nm hb rfl <| t_len ⟨_, rfl, pp_nt hb rfl atI2 ⟨_, rfl, iD (fun e => ?_) fun e => ?_⟩⟩
  · have e' : n ≤ (prs st kd v s).length := by
      simp only [List.length_map, List.length_take] at e
      omega
    obtain ⟨p, hp⟩ : ∃ p, (prs st kd v s)[n - 1]? = some p := ⟨_, List.getElem?_eq_getElem (by omega)⟩
    have hr : R (.val (.int p.1)) := by
      unfold reachV at r
      rw [hp] at r
      exact r
    refine pp_ti <| pp_ix <| pp_nm hb rfl <| pp_neg <| pp_int ⟨1, rfl, ix_tp (atI_neg1 (x := dPr p) ?_) ⟨_, _, rfl, atI0, hr⟩⟩
    have hlen : (((prs st kd v s).take n).map dPr).length = n := by simp; omega
    rw [hlen, List.getElem?_map, List.getElem?_take_of_lt (by omega), hp]
    rfl
  · have e' : (prs st kd v s).length < n := by
      simp only [List.length_map, List.length_take] at e
      omega
    have : (prs st kd v s)[n - 1]? = none := List.getElem?_eq_none (by omega)
    unfold reachV at r
    rw [this] at r
    exact pp_non r
theorem f_reach_of (tx : Tx W) : Df W 11 "reach_of" (spP W.K 2 S_reach_of) := d_reach_of (fun f fd F m bn => Df.mkP tx.calm F m c_reach_of rfl bn fun X hb ho ds R hl h => b_reach_of (k := 0) tx hb ho ds R hl h) tx.F_reach_of
end T

namespace T
open PySem PySem.Spec L2 RZ Dn
variable {W : Wd} {X : Cx} {k : Nat}
def intD : D → Bool
  | .int _ => true
  | _ => false
def numD : D → Bool
  | .int i => decide (0 ≤ i)
  | _ => false
def numsD : D → Bool
  | .tup ds => ds.all numD
  | _ => false
def pairD : D → Bool
  | .tup ds => ds.all numD && decide (ds.length = 2)
  | _ => false
def S_is_integer : Sg := fun xs R => ∃ d, xs = [d] ∧ R (.val (.bl (intD d)))
theorem kiI (d : D) : kitB (tyN d) "int" = some (match d with | .int _ => true | .bl _ => true | _ => false) := match d with
  | .non => (by decide +kernel : kitB "NoneType" "int" = some false)
  | .bl _ => (by decide +kernel : kitB "bool" "int" = some true)
  | .int _ => (by decide +kernel : kitB "int" "int" = some true)
  | .str _ => (by decide +kernel : kitB "str" "int" = some false)
  | .tup _ => (by decide +kernel : kitB "tuple" "int" = some false)
  | .lst _ => (by decide +kernel : kitB "list" "int" = some false)
  | .dic _ => (by decide +kernel : kitB "dict" "int" = some false)
  | .scr _ => (by decide +kernel : kitB "list" "int" = some false)
theorem kiB (d : D) : kitB (tyN d) "bool" = some (match d with | .bl _ => true | _ => false) := match d with
  | .non => (by decide +kernel : kitB "NoneType" "bool" = some false)
  | .bl _ => (by decide +kernel : kitB "bool" "bool" = some true)
  | .int _ => (by decide +kernel : kitB "int" "bool" = some false)
  | .str _ => (by decide +kernel : kitB "str" "bool" = some false)
  | .tup _ => (by decide +kernel : kitB "tuple" "bool" = some false)
  | .lst _ => (by decide +kernel : kitB "list" "bool" = some false)
  | .dic _ => (by decide +kernel : kitB "dict" "bool" = some false)
  | .scr _ => (by decide +kernel : kitB "list" "bool" = some false)
theorem kiT (d : D) : kitB (tyN d) "tuple" = some (match d with | .tup _ => true | _ => false) := match d with
  | .non => (by decide +kernel : kitB "NoneType" "tuple" = some false)
  | .bl _ => (by decide +kernel : kitB "bool" "tuple" = some false)
  | .int _ => (by decide +kernel : kitB "int" "tuple" = some false)
  | .str _ => (by decide +kernel : kitB "str" "tuple" = some false)
  | .tup _ => (by decide +kernel : kitB "tuple" "tuple" = some true)
  | .lst _ => (by decide +kernel : kitB "list" "tuple" = some false)
  | .dic _ => (by decide +kernel : kitB "dict" "tuple" = some false)
  | .scr _ => (by decide +kernel : kitB "list" "tuple" = some false)
theorem b_is_integer (tx : Tx W) (hb : Bc W X ⟨k, n_is_integer, defScope s_is_integer, fun _ => true⟩) (ho : Own X) (xs : List D) (R : O → Prop) (_ : xs.length = 1) (h : S_is_integer xs R) :
    WSs X (defBody s_is_integer) (begin0 n_is_integer 1 (xs.map Slot.v)) { nx := fun _ => R (.val .non), rt := R } := by
  have g1 := tx.g_isinstance
  have g2 := tx.g_int
  have g3 := tx.g_bool
  obtain ⟨d, rfl, r⟩ := h
  refine wss_cons <| ws_retP <| pp_and <| pp_isi hb (t := "int") <| pp_nm hb rfl ⟨_, kiI d, _, rfl, ?_⟩
  cases d with
  | int i => exact iTT (pp_one <| pp_not <| pp_isi hb (t := "bool") <| pp_nm hb rfl ⟨_, kiB _, _, rfl, r⟩)
  | bl i => exact iTT (pp_one <| pp_not <| pp_isi hb (t := "bool") <| pp_nm hb rfl ⟨_, kiB _, _, rfl, r⟩)
  | _ => exact iFF r
theorem f_is_integer (tx : Tx W) : Df W 1 "is_integer" (spP W.K 1 S_is_integer) := d_is_integer (fun f fd F m bn => Df.mkP tx.calm F m c_is_integer rfl bn fun X hb ho ds R hl h => b_is_integer (k := 0) tx hb ho ds R hl h) tx.F_is_integer
def S_is_number : Sg := fun xs R => ∃ d, xs = [d] ∧ R (.val (.bl (numD d)))
theorem b_is_number (tx : Tx W) (hb : Bc W X ⟨k + 1, n_is_number, defScope s_is_number, fun _ => true⟩) (ho : Own X) (xs : List D) (R : O → Prop) (_ : xs.length = 1) (h : S_is_number xs R) :
    WSs X (defBody s_is_number) (begin0 n_is_number 1 (xs.map Slot.v)) { nx := fun _ => R (.val .non), rt := R } := by
  obtain ⟨d, rfl, r⟩ := h
  refine wss_cons <| ws_retP <| pp_and <| pp_call hb tx.calm (f_is_integer tx) (pl1 <| pp_nm hb rfl ⟨rfl, d, rfl, _, rfl, ?_⟩) (by show 1 ≤ k + 1; omega)
  cases d with
  | int i => exact iTT (pp_one <| pp_cmp <| rd_nm hb rfl <| rd_int <| c_ge r)
  | _ => exact iFF r
theorem f_is_number (tx : Tx W) : Df W 2 "is_number" (spP W.K 1 S_is_number) := d_is_number (fun f fd F m bn => Df.mkP tx.calm F m c_is_number rfl bn fun X hb ho ds R hl h => b_is_number (k := 0) tx hb ho ds R hl h) tx.F_is_number
def S_are_numbers : Sg := fun xs R => ∃ d, xs = [d] ∧ (∀ ds, d = .tup ds → ds.length ≤ 1000) ∧ R (.val (.bl (numsD d)))
theorem b_are_numbers (tx : Tx W) (hb : Bc W X ⟨k + 2, n_are_numbers, defScope s_are_numbers, fun _ => true⟩) (ho : Own X) (xs : List D) (R : O → Prop) (_ : xs.length = 1) (h : S_are_numbers xs R) :
    WSs X (defBody s_are_numbers) (begin0 n_are_numbers 1 (xs.map Slot.v)) { nx := fun _ => R (.val .non), rt := R } := by
  have g1 := tx.g_isinstance
  have g2 := tx.g_tuple
  have g3 := tx.g_all
  obtain ⟨d, rfl, hz, r⟩ := h
  refine wss_cons <| ws_retP <| pp_and <| pp_isi hb (t := "tuple") <| pp_nm hb rfl ⟨_, kiT d, _, rfl, ?_⟩
  cases d with
  | tup ds =>
    refine iTT (pp_one <| pp_cl hb (id := "all") <| pl1 <| pp_lc hb tx.calm [("item", 1)] <| pit_tup <| pp_nm hb rfl ⟨ds, rfl, ?_⟩)
    refine lp_map (fun d => .bl (numD d)) (szN (hz ds rfl)) ?_ fun d hd => ?_
    · have e : (ds.map fun d => D.bl (numD d)) = (ds.map numD).map D.bl := by rw [List.map_map]; rfl
      rw [e]
      refine l_all hb ?_
      simpa [numsD, List.all_map] using r
    · refine ⟨_, fun X' hb' => pgd_name hb' 1 (by simp) rfl, fun X' hb' => ?_⟩
      exact pp_call hb' tx.calm (f_is_number tx) (pl1 <| pp_nm hb' rfl ⟨rfl, d, rfl, rfl⟩) (by show 2 ≤ k + 2; omega)
  | _ => exact iFF r
theorem f_are_numbers (tx : Tx W) : Df W 3 "are_numbers" (spP W.K 1 S_are_numbers) := d_are_numbers (fun f fd F m bn => Df.mkP tx.calm F m c_are_numbers rfl bn fun X hb ho ds R hl h => b_are_numbers (k := 0) tx hb ho ds R hl h) tx.F_are_numbers
def S_is_pair : Sg := fun xs R => ∃ d, xs = [d] ∧ (∀ ds, d = .tup ds → ds.length ≤ 1000) ∧ R (.val (.bl (pairD d)))
theorem b_is_pair (tx : Tx W) (hb : Bc W X ⟨k + 3, n_is_pair, defScope s_is_pair, fun _ => true⟩) (ho : Own X) (xs : List D) (R : O → Prop) (_ : xs.length = 1) (h : S_is_pair xs R) :
    WSs X (defBody s_is_pair) (begin0 n_is_pair 1 (xs.map Slot.v)) { nx := fun _ => R (.val .non), rt := R } := by
  have g1 := tx.g_len
  obtain ⟨d, rfl, hz, r⟩ := h
  refine wss_cons <| ws_retP <| pp_and <| pp_call hb tx.calm (f_are_numbers tx) (pl1 <| pp_nm hb rfl ⟨rfl, d, rfl, hz, _, rfl, ?_⟩) (by show 3 ≤ k + 3; omega)
  cases d with
  | tup ds =>
    refine iB (fun e => ?_) fun e => ?_
    · have e' : ds.all numD = true := e
      refine pp_one <| pp_cmp <| PP.pr <| pp_cl hb (id := "len") <| pl1 <| pp_nm hb rfl <| t_len <| rd_int <| c_eqI ?_
      have : decide ((ds.length : Int) = 2) = pairD (.tup ds) := by
        show _ = (ds.all numD && decide (ds.length = 2))
        rw [e', Bool.true_and, Bool.eq_iff_iff]
        simp
        omega
      rw [this]
      exact r
    · have e' : ds.all numD = false := e
      have : pairD (.tup ds) = false := by show (ds.all numD && _) = false; rw [e', Bool.false_and]
      rw [this] at r
      exact r
  | _ => exact iFF r
theorem f_is_pair (tx : Tx W) : Df W 4 "is_pair" (spP W.K 1 S_is_pair) := d_is_pair (fun f fd F m bn => Df.mkP tx.calm F m c_is_pair rfl bn fun X hb ho ds R hl h => b_is_pair (k := 0) tx hb ho ds R hl h) tx.F_is_pair

/-! ### rank_of -/
/-- the place of the first pair with that key -/
def rankV (ps : List (Int × Int)) (j : Int) : D := match ps.findIdx? fun p => decide (p.2 = j) with
  | some i => .int i
  | none => .non
def S_rank_of : Sg := fun xs R => ∃ (st : List Item) (kd : Str) (v : List Int) (n : Nat) (s : Sv) (j : Int), xs = [dSt st, dQ kd v n s, .int j] ∧ Good st v s ∧ R (.val (rankV (prs st kd v s) j))
theorem b_rank_of (tx : Tx W) (hb : Bc W X ⟨k + 9, n_rank_of, defScope s_rank_of, fun _ => true⟩) (ho : Own X) (xs : List D) (R : O → Prop) (_ : xs.length = 3) (h : S_rank_of xs R) :
    WSs X (defBody s_rank_of) (begin0 n_rank_of 3 (xs.map Slot.v)) { nx := fun _ => R (.val .non), rt := R } := by
  have g1 := tx.g_enumerate
  obtain ⟨st, kd, v, n, s, j, rfl, G, r⟩ := h
  refine wss_cons <| ws_asg <| pp_nm hb rfl <| pgd_tup hb <| pgs_cons <| pgd_name hb 3 trivial <| pgs_cons <| pgd_name hb 4 trivial <| pgs_cons <| pgd_name hb 5 trivial <| pgs_cons <| pgd_name hb 6 trivial <| pgs_nil ?_
  refine wss_cut (fun Γ' => (prs st kd v s).findIdx? (fun p => decide (p.2 = j)) = none) (ws_for hb ho <| pit_enT hb <| pl1 <| pp_call hb tx.calm (f_pairs_from tx) (pl4 <| pp_nm hb rfl <| pp_nm hb rfl <| pp_nm hb rfl <| pp_nm hb rfl ⟨rfl, st, kd, v, s, rfl, G, _, rfl, ?_⟩) (by show 9 ≤ k + 9; omega)) fun Γ' h => ?_
  · generalize hps : prs st kd v s = ps at r
    refine ⟨fun i Γ' => Γ' = [.v (dSt st), .v (dQ kd v n s), .v (.int j), .v (.str kd), .v (dV v), .v (.int n), .v (dSv s), .no, .no] ∧ ∀ p ∈ ps.take i, p.2 ≠ j, ⟨rfl, by simp⟩, fun Γ' h => ?_, fun i d Γ' hd h => ?_⟩
    · rw [List.findIdx?_eq_none_iff]
      intro p hp
      have := h.2
      rw [enD_len, List.length_map, List.take_length] at this
      simpa using this p hp
    · obtain ⟨rfl, hn⟩ := h
      obtain ⟨d2, h1, rfl⟩ := enD_get hd
      rw [List.getElem?_map] at h1
      cases q : ps[i]? with
      | none => rw [q] at h1; cases h1
      | some p =>
        rw [q] at h1
        cases h1
        have tk : ps.take (i + 1) = ps.take i ++ [p] := by rw [List.take_succ, q]; rfl
        refine pgd_tup hb <| pgs_cons <| pgd_name hb 7 trivial <| pgs_cons <| pgd_name hb 8 trivial <| pgs_nil ?_
        refine wss_cons <| ws_if <| pb_eI <| pp_nt hb rfl atI1 ⟨_, rfl, pp_nm hb rfl ⟨_, rfl, iD (fun e => ?_) fun e => wss_nil <| wss_end [7, 8] ⟨rfl, ?_⟩⟩⟩
        · refine wss_cons <| ws_retP <| pp_nm hb rfl ?_
          have : rankV ps j = .int i := by
            unfold rankV
            have hf : ps.findIdx? (fun p => decide (p.2 = j)) = some i := by
              rw [List.findIdx?_eq_some_iff_getElem]
              obtain ⟨hi, he⟩ := List.getElem?_eq_some_iff.mp q
              refine ⟨hi, by rw [he]; simpa using e, fun m hm => ?_⟩
              have := hn ps[m] (List.mem_take_iff_getElem.mpr ⟨m, by omega, rfl⟩)
              simpa using this
            rw [hf]
          rw [this] at r
          exact r
        · rw [tk]
          intro p' hp'
          rcases List.mem_append.mp hp' with z | z
          · exact hn p' z
          · have : p' = p := by simpa using z
            rw [this]
            exact e
  · unfold rankV at r
    rw [h] at r
    exact wss_cons <| ws_retP <| pp_non r
theorem f_rank_of (tx : Tx W) : Df W 10 "rank_of" (spP W.K 3 S_rank_of) := d_rank_of (fun f fd F m bn => Df.mkP tx.calm F m c_rank_of rfl bn fun X hb ho ds R hl h => b_rank_of (k := 0) tx hb ho ds R hl h) tx.F_rank_of
end T

namespace T
open PySem PySem.Spec L2 RZ Dn
variable {W : Wd} {X : Cx} {k : Nat}
theorem sh_pr (p : Int × Int) : Sh 1 (dPr p) := fun d hd => by
  have : d = .int p.1 ∨ d = .int p.2 := by simpa [dPr] using hd
  rcases this with rfl | rfl <;> exact trivial
theorem nb_pr (p : Int × Int) : NoB 1 (dPr p) := fun d hd => by
  have : d = .int p.1 ∨ d = .int p.2 := by simpa [dPr] using hd
  rcases this with rfl | rfl <;> exact trivial
theorem dPr_inj {p q : Int × Int} (h : dPr p = dPr q) : p = q := by
  have : p.1 = q.1 ∧ p.2 = q.2 := by simpa [dPr] using h
  exact Prod.ext this.1 this.2
theorem any_pr (ps : List (Int × Int)) (q : Int × Int) : (ps.map dPr).any (fun z => PyData.eqv z.py (dPr q).py) = decide (q ∈ ps) := by
  rw [Bool.eq_iff_iff, List.any_eq_true, decide_eq_true_iff]
  constructor
  · rintro ⟨z, hz, e⟩
    obtain ⟨p, hp, rfl⟩ := List.mem_map.mp hz
    have := (eqv_iff 1 _ _ (nb_pr p) (nb_pr q)).mp e
    rw [← dPr_inj this]
    exact hp
  · intro h
    exact ⟨dPr q, List.mem_map.mpr ⟨q, h, rfl⟩, (eqv_iff 1 _ _ (nb_pr q) (nb_pr q)).mpr rfl⟩
theorem sh_prs (ps : List (Int × Int)) : Sh 2 (.tup (ps.map dPr)) := fun d hd => by
  obtain ⟨p, _, rfl⟩ := List.mem_map.mp hd
  exact sh_pr p
theorem c_notInP {bx : Bx} {T : Bool → Prop} (hb : Bc W X bx) {ps : List (Int × Int)} {q : Int × Int} (t : T (!decide (q ∈ ps))) : Cmp X .NotIn (dPr q) (.tup (ps.map dPr)) T :=
  c_notInT hb (sh_pr q) (sh_prs ps) (by rw [any_pr]; exact t)
theorem c_leP {bx : Bx} {T : Bool → Prop} (hb : Bc W X bx) {p q : Int × Int} (t : T (lePr p q)) : Cmp X .LtE (dPr p) (dPr q) T :=
  cmp_of (op_leT (by have := hb.room.un; omega)) fun H v w hv hw Q qq => by
    cases hv with
    | tup h1 h2 =>
      cases hw with
      | tup h3 h4 =>
        have e1 := dq_ints (ns := [p.1, p.2]) h2
        have e2 := dq_ints (ns := [q.1, q.2]) h4
        subst e1 e2
        refine ⟨_, _, [p.1, p.2], [q.1, q.2], rfl, rfl, h1, h3, ?_⟩
        have e : Ob.lexAt (fun j => decide ([p.1, p.2].getD j 0 = [q.1, q.2].getD j 0)) (fun j => decide ([p.1, p.2].getD j 0 ≤ [q.1, q.2].getD j 0)) (decide ([p.1, p.2].length ≤ [q.1, q.2].length)) 0 (min [p.1, p.2].length [q.1, q.2].length) = lePr p q := by
          show Ob.lexAt _ _ _ 0 2 = _
          unfold lePr
          by_cases e1 : p.1 = q.1
          · by_cases e2 : p.2 = q.2
            · simp [Ob.lexAt, e1, e2]
            · simp [Ob.lexAt, e1, e2]
          · have : (p.1 ≤ q.1) ↔ (p.1 < q.1) := by omega
            simp [Ob.lexAt, e1, this]
        rw [e]
        exact qq _ t
def fD (w : Str) (i : Int) : D := .tup [.str w, .int i]
def ordAt (qs : List (Int × Int)) (i : Nat) : Bool := match qs[i]?, qs[i - 1]? with
  | some a, some b => lePr a b
  | _, _ => false
def faultQ (ps : List (Int × Int)) (n : Nat) (qs : List (Int × Int)) : D :=
  match qs.findIdx? (fun q => !decide (q ∈ ps)) with
  | some i => fD "pair" i
  | none => match (List.range (qs.length - 1)).find? (fun i => ordAt qs (i + 1)) with
    | some i => fD "order" (i + 1 : Nat)
    | none => if n < qs.length then fD "many" qs.length else match (ps.take n).find? (fun p => !decide (p ∈ qs)) with
      | some p => fD "missing" p.2
      | none => .non
def S_answer_fault : Sg := fun xs R => ∃ (st : List Item) (kd : Str) (v : List Int) (n : Nat) (s : Sv) (ds : List D), xs = [dSt st, dQ kd v n s, .tup ds] ∧ Good st v s ∧ ds.length ≤ 1000 ∧ (∀ d ∈ ds, ∀ es, d = .tup es → es.length ≤ 1000) ∧
  ((∃ i d, ds[i]? = some d ∧ pairD d = false ∧ (∀ e ∈ ds.take i, pairD e = true) ∧ R (.val (fD "form" i))) ∨
   (∃ qs : List (Int × Int), ds = qs.map dPr ∧ (∀ q ∈ qs, pairD (dPr q) = true) ∧ R (.val (faultQ (prs st kd v s) n qs))))
theorem b_answer_fault (tx : Tx W) (hb : Bc W X ⟨k + 9, n_answer_fault, defScope s_answer_fault, fun _ => true⟩) (ho : Own X) (xs : List D) (R : O → Prop) (_ : xs.length = 3) (h : S_answer_fault xs R) :
    WSs X (defBody s_answer_fault) (begin0 n_answer_fault 3 (xs.map Slot.v)) { nx := fun _ => R (.val .non), rt := R } := by
  have g1 := tx.g_enumerate
  have g2 := tx.g_isinstance
  have g3 := tx.g_tuple
  have g4 := tx.g_len
  have g5 := tx.g_range
  obtain ⟨st, kd, v, n, s, ds, rfl, G, hz, he, r⟩ := h
  refine wss_cons <| ws_if <| pb_not <| pb_val <| pp_isi hb (t := "tuple") <| pp_nm hb rfl ⟨_, kiT _, _, rfl, iFF <| wss_nil ?_⟩
  -- are all of them pairs
  refine wss_cut (fun Γ' => Γ' = [.v (dSt st), .v (dQ kd v n s), .v (.tup ds), .no, .no, .no, .no, .no, .no, .no] ∧ ∀ e ∈ ds, pairD e = true) (ws_for hb ho <| pit_enT hb <| pl1 <| pp_nm hb rfl ⟨ds, rfl,
    fun i Γ' => Γ' = [.v (dSt st), .v (dQ kd v n s), .v (.tup ds), .no, .no, .no, .no, .no, .no, .no] ∧ ∀ e ∈ ds.take i, pairD e = true, ⟨rfl, by simp⟩, fun Γ' h => ?_, fun i d Γ' hd h => ?_⟩) fun Γ' h => ?_
  · rw [enD_len, List.take_length] at h
    exact h
  · obtain ⟨rfl, hp⟩ := h
    obtain ⟨d, h1, rfl⟩ := enD_get hd
    have tk : ds.take (i + 1) = ds.take i ++ [d] := by rw [List.take_succ, h1]; rfl
    refine pgd_tup hb <| pgs_cons <| pgd_name hb 3 trivial <| pgs_cons <| pgd_name hb 4 trivial <| pgs_nil ?_
    refine wss_cons <| ws_if <| pb_not <| pb_val <| pp_call hb tx.calm (f_is_pair tx) (pl1 <| pp_nm hb rfl ⟨rfl, d, rfl, he d (List.mem_of_getElem? h1), _, rfl, ?_⟩) (by show 4 ≤ k + 9; omega)
    cases q : pairD d with
    | true =>
      refine iFF <| wss_nil <| wss_end [3, 4] ⟨rfl, ?_⟩
      rw [tk]
      intro e he'
      rcases List.mem_append.mp he' with z | z
      · exact hp e z
      · have : e = d := by simpa using z
        rw [this]
        exact q
    | false =>
      refine iTT <| wss_cons <| ws_retP <| pp_tup <| pl2 <| pp_str <| pp_nm hb rfl ⟨szN (by simp), ?_⟩
      rcases r with ⟨j, d', hj, hpj, hfj, r⟩ | ⟨qs, rfl, hq, r⟩
      · have : j = i := by
          rcases Nat.lt_trichotomy j i with z | z | z
          · have : d' ∈ ds.take i := List.mem_of_getElem? (by rw [List.getElem?_take_of_lt z]; exact hj)
            rw [hp d' this] at hpj
            cases hpj
          · exact z
          · have : d ∈ ds.take j := List.mem_of_getElem? (by rw [List.getElem?_take_of_lt z]; exact h1)
            rw [hfj d this] at q
            cases q
        rw [← this]
        exact r
      · obtain ⟨p, hp2, rfl⟩ := List.mem_map.mp (List.mem_of_getElem? h1)
        rw [hq p hp2] at q
        cases q
  obtain ⟨rfl, hall⟩ := h
  rcases r with ⟨j, d', hj, hpj, hfj, r⟩ | ⟨qs, rfl, hq, r⟩
  · rw [hall d' (List.mem_of_getElem? hj)] at hpj
    cases hpj
  refine wss_cons <| ws_asg <| pp_nm hb rfl <| pgd_tup hb <| pgs_cons <| pgd_name hb 5 trivial <| pgs_cons <| pgd_name hb 6 trivial <| pgs_cons <| pgd_name hb 7 trivial <| pgs_cons <| pgd_name hb 8 trivial <| pgs_nil ?_
  refine wss_cons <| ws_set hb 9 <| po_call hb tx.calm (f_pairs_from tx) (pl4 <| pp_nm hb rfl <| pp_nm hb rfl <| pp_nm hb rfl <| pp_nm hb rfl ⟨rfl, st, kd, v, s, rfl, G, ?_⟩) (by show 9 ≤ k + 9; omega)
  generalize prs st kd v s = ps at r
  let Γ1 : List Dn.Slot := [.v (dSt st), .v (dQ kd v n s), .v (.tup (qs.map dPr)), .no, .no, .v (.str kd), .v (dV v), .v (.int n), .v (dSv s), .v (.tup (ps.map dPr))]
  -- are all of them among the pairs
  refine wss_cut (fun Γ' => Γ' = Γ1 ∧ ∀ q ∈ qs, q ∈ ps) (ws_for hb ho <| pit_enT hb <| pl1 <| pp_nm hb rfl ⟨_, rfl, fun i Γ' => Γ' = Γ1 ∧ ∀ q ∈ qs.take i, q ∈ ps, ⟨rfl, by simp⟩, fun Γ' h => ?_, fun i d Γ' hd h => ?_⟩) fun Γ' h => ?_
  · rw [enD_len, List.length_map, List.take_length] at h
    exact h
  · obtain ⟨rfl, hp⟩ := h
    obtain ⟨d, h1, rfl⟩ := enD_get hd
    rw [List.getElem?_map] at h1
    cases q : qs[i]? with
    | none => rw [q] at h1; cases h1
    | some p =>
      rw [q] at h1
      cases h1
      have tk : qs.take (i + 1) = qs.take i ++ [p] := by rw [List.take_succ, q]; rfl
      refine pgd_tup hb <| pgs_cons <| pgd_name hb 3 trivial <| pgs_cons <| pgd_name hb 4 trivial <| pgs_nil ?_
      refine wss_cons <| ws_if <| pb_cmp <| rd_nm hb rfl <| rd_nm hb rfl <| c_notInP hb (q := p) <| iN (fun e => ?_) fun e => wss_nil <| wss_end [3, 4] ⟨rfl, ?_⟩
      · refine wss_cons <| ws_retP <| pp_tup <| pl2 <| pp_str <| pp_nm hb rfl ⟨szN (by simp), ?_⟩
        have hf : qs.findIdx? (fun q => !decide (q ∈ ps)) = some i := by
          rw [List.findIdx?_eq_some_iff_getElem]
          obtain ⟨hi, he⟩ := List.getElem?_eq_some_iff.mp q
          refine ⟨hi, by rw [he]; simpa using e, fun m hm => ?_⟩
          have := hp qs[m] (List.mem_take_iff_getElem.mpr ⟨m, by omega, rfl⟩)
          simpa using this
        unfold faultQ at r
        rw [hf] at r
        exact r
      · rw [tk]
        intro p' hp'
        rcases List.mem_append.mp hp' with z | z
        · exact hp p' z
        · have : p' = p := by simpa using z
          rw [this]
          exact e
  obtain ⟨rfl, hin⟩ := h
  have hf : qs.findIdx? (fun q => !decide (q ∈ ps)) = none := by
    rw [List.findIdx?_eq_none_iff]
    intro q hq2
    simpa using hin q hq2
  unfold faultQ at r
  rw [hf] at r
  have hlen : qs.length ≤ 1000 := by simpa using hz
  -- do they stand in order
  refine wss_cut (fun Γ' => Γ' = Γ1 ∧ ∀ i, i < qs.length - 1 → ordAt qs (i + 1) = false) (ws_for hb ho <| pit_rng2 hb <| pl2 <| pp_int <| pp_cl hb (id := "len") <| pl1 <| pp_nm hb rfl <| t_len ⟨1, _, rfl, by simp; omega, fun i Γ' => Γ' = Γ1 ∧ ∀ j, j < i → ordAt qs (j + 1) = false, ⟨rfl, fun j h => by omega⟩, fun Γ' h => ?_, fun i d Γ' hd h => ?_⟩) fun Γ' h => ?_
  · rw [rngD_len] at h
    refine ⟨h.1, fun i hi => h.2 i ?_⟩
    simp
    omega
  · obtain ⟨rfl, hp⟩ := h
    obtain ⟨hi, rfl⟩ := rngD_get hd
    have hi' : i + 1 < qs.length := by simp at hi; omega
    obtain ⟨a, ha⟩ : ∃ a, qs[i + 1]? = some a := ⟨_, List.getElem?_eq_getElem hi'⟩
    obtain ⟨b, hb2⟩ : ∃ b, qs[i]? = some b := ⟨_, List.getElem?_eq_getElem (by omega)⟩
    refine pgd_name hb 3 trivial ?_
    have n1 : atI (qs.map dPr) (1 + (i : Int)) = some (dPr a) := by
      refine atI_int (by omega) ?_
      rw [show (1 + (i : Int)).toNat = i + 1 by omega, List.getElem?_map, ha]
      rfl
    have n2 : atI (qs.map dPr) (1 + (i : Int) - 1) = some (dPr b) := by
      refine atI_int (by omega) ?_
      rw [show (1 + (i : Int) - 1).toNat = i by omega, List.getElem?_map, hb2]
      rfl
    have ho1 : ordAt qs (i + 1) = lePr a b := by
      unfold ordAt
      rw [ha, show i + 1 - 1 = i from rfl, hb2]
    refine wss_cons <| ws_if <| pb_cmp <| PP.pr <| pp_ix <| pp_nm hb rfl <| pp_nm hb rfl <| ix_tp n1 <| PP.pr <| pp_ix <| pp_nm hb rfl <| pp_op <| pp_nm hb rfl <| pp_int <| o_sub <| ix_tp n2 <| c_leP hb <| iB (fun e => ?_) fun e => wss_nil <| wss_end [3] ⟨rfl, ?_⟩
    · refine wss_cons <| ws_retP <| pp_tup <| pl2 <| pp_str <| pp_nm hb rfl ⟨szN (by simp), ?_⟩
      have hfd : (List.range (qs.length - 1)).find? (fun i => ordAt qs (i + 1)) = some i := by
        rw [List.find?_range_eq_some]
        refine ⟨by rw [ho1]; exact e, by simp; omega, fun j hj => ?_⟩
        simp [hp j hj]
      rw [hfd] at r
      have e3 : (1 + (i : Int)) = ((i + 1 : Nat) : Int) := by omega
      rw [e3]
      exact r
    · intro j hj
      by_cases z : j = i
      · rw [z, ho1]
        exact e
      · exact hp j (by omega)
  obtain ⟨rfl, hord⟩ := h
  have hfd : (List.range (qs.length - 1)).find? (fun i => ordAt qs (i + 1)) = none := by
    rw [List.find?_eq_none]
    intro i hi
    simp [hord i (by simpa using hi)]
  rw [hfd] at r
  refine wss_cons <| ws_if <| pb_gI <| pp_cl hb (id := "len") <| pl1 <| pp_nm hb rfl <| t_len ⟨_, rfl, pp_nm hb rfl ⟨_, rfl, iD (fun e => ?_) fun e => wss_nil ?_⟩⟩
  · refine wss_cons <| ws_retP <| pp_tup <| pl2 <| pp_str <| pp_cl hb (id := "len") <| pl1 <| pp_nm hb rfl <| t_len ⟨szN (by simp), ?_⟩
    have e' : n < qs.length := by simpa using e
    simp only [if_pos e'] at r
    simpa [fD] using r
  have e' : ¬ n < qs.length := by simpa using e
  simp only [if_neg e'] at r
  -- is one missing
  refine wss_cut (fun Γ' => ∀ p ∈ ps.take n, p ∈ qs) (ws_for hb ho <| pit_tup <| pp_slT <| pp_nm hb rfl ⟨_, rfl, pp_nm hb rfl ⟨n, rfl, ⟨_, rfl, ?_⟩⟩⟩) fun Γ' h => ?_
  · rw [cutTo, ← List.map_take]
    refine ⟨fun i Γ' => Γ' = Γ1 ∧ ∀ p ∈ (ps.take n).take i, p ∈ qs, ⟨rfl, by simp⟩, fun Γ' h => ?_, fun i d Γ' hd h => ?_⟩
    · rw [List.length_map, List.take_length] at h
      exact h.2
    · obtain ⟨rfl, hp⟩ := h
      rw [List.getElem?_map] at hd
      cases q : (ps.take n)[i]? with
      | none => rw [q] at hd; cases hd
      | some p =>
        rw [q] at hd
        cases hd
        have tk : (ps.take n).take (i + 1) = (ps.take n).take i ++ [p] := by rw [List.take_succ, q]; rfl
        refine pgd_name hb 4 trivial ?_
        refine wss_cons <| ws_if <| pb_cmp <| rd_nm hb rfl <| rd_nm hb rfl <| c_notInP hb (q := p) <| iN (fun e => ?_) fun e => wss_nil <| wss_end [4] ⟨rfl, ?_⟩
        · refine wss_cons <| ws_retP <| pp_tup <| pl2 <| pp_str <| pp_nt hb rfl atI1 ⟨szN (by simp), ?_⟩
          have hfp : (ps.take n).find? (fun p => !decide (p ∈ qs)) = some p := by
            obtain ⟨hi, he⟩ := List.getElem?_eq_some_iff.mp q
            have e2 : ps.take n = (ps.take n).take (i + 1) ++ (ps.take n).drop (i + 1) := (List.take_append_drop _ _).symm
            rw [e2, tk, List.append_assoc, List.find?_append]
            have : ((ps.take n).take i).find? (fun p => !decide (p ∈ qs)) = none := by
              rw [List.find?_eq_none]
              intro x hx
              simpa using hp x hx
            rw [this]
            simp [e]
          rw [hfp] at r
          exact r
        · rw [tk]
          intro p' hp'
          rcases List.mem_append.mp hp' with z | z
          · exact hp p' z
          · have : p' = p := by simpa using z
            rw [this]
            exact e
  · have hfp : (ps.take n).find? (fun p => !decide (p ∈ qs)) = none := by
      rw [List.find?_eq_none]
      intro x hx
      simpa using h x hx
    rw [hfp] at r
    exact wss_cons <| ws_retP <| pp_non r
theorem f_answer_fault (tx : Tx W) : Df W 10 "answer_fault" (spP W.K 3 S_answer_fault) := d_answer_fault (fun f fd F m bn => Df.mkP tx.calm F m c_answer_fault rfl bn fun X hb ho ds R hl h => b_answer_fault (k := 0) tx hb ho ds R hl h) tx.F_answer_fault
end T

/-! K84h: the law's drawing from its heap. -/
namespace T
open PySem PySem.Spec L2 RZ Dn
variable {W : Wd} {X : Cx} {k : Nat}
/-- the law's heap: what is left of the script, the stirred number -/
def IH : O → Prop := fun o => ∃ (ns : List Int) (st : Int), o = .lst [O.ls (ns.map .int), .val (.int st)] ∧ ns.length ≤ 100 ∧ 0 ≤ st ∧ st < 2147483647
structure Hs (B : Hp) (a b : Addr) (H0 : Hp) (ns : List Int) (st : Int) (H : Hp) : Prop where
  ha : H a = some (.lst [.ref b, .int st])
  hb : H b = some (.lst (ns.map V.int))
  gr : Gr (fun x => x = a ∨ x = b) B H0 B H
  le : Le B H
def hD (ns : List Int) (st : Int) : D := .lst [.lst (ns.map .int), .int st]
def Bp (B : Hp) (a b : Addr) (ns : List Int) (st : Int) : Hp := upd (upd B b (.lst (ns.map V.int))) a (.lst [.ref b, .int st])
section
variable {B H0 H : Hp} {a b : Addr} {ns : List Int} {st : Int}
theorem Hs.sub (na : B a = none) (nb : B b = none) : Sub B (Bp B a b ns st) := fun x u h => by
  have e1 : x ≠ a := fun z => by rw [z, na] at h; cases h
  have e2 : x ≠ b := fun z => by rw [z, nb] at h; cases h
  unfold Bp
  rw [upd_ne e1, upd_ne e2]
  exact h
theorem Hs.leP (s : Hs B a b H0 ns st H) : Le (Bp B a b ns st) H := fun x u h => by
  unfold Bp at h
  by_cases e1 : x = a
  · subst e1
    rw [upd_same] at h
    cases h
    exact .inl s.ha
  · rw [upd_ne e1] at h
    by_cases e2 : x = b
    · subst e2
      rw [upd_same] at h
      cases h
      exact .inl s.hb
    · rw [upd_ne e2] at h
      exact s.le x u h
/-- the frame while nothing is written: the heap is data -/
theorem Hs.rp {K : PySem.W.Frag} (ab : a ≠ b) (s : Hs B a b H0 ns st H) (m : Int) (z : Option Int) :
    Rp K ⟨Bp B a b ns st, H, NoM, none, []⟩ (Bp B a b ns st) H [some (.ref a), some (.int m), z.map V.int] [.v (hD ns st), .v (.int m), match z with | some i => .v (.int i) | none => .no] := by
  refine ⟨s.leP, Gr.rfl', rfl, trivial, ⟨fun _ => [], (fun _ _ _ z => nomatch z), (fun _ _ z => nomatch z), fun i => ?_⟩, fun _ z => z.elim, fun _ z => nomatch z⟩
  match i with
  | 0 =>
    have e1 : Bp B a b ns st a = some (.lst [.ref b, .int st]) := upd_same
    have e2 : Bp B a b ns st b = some (.lst (ns.map V.int)) := by
      unfold Bp
      rw [upd_ne (Ne.symm ab)]
      exact upd_same
    exact ⟨.ref a, rfl, .val (.lst (.inl e1) (.cons (.lst (.inl e2) ints_dq) (.cons (.int _) .nil)))⟩
  | 1 => exact ⟨.int m, rfl, .val (.int m)⟩
  | 2 =>
    cases z with
    | none => exact rfl
    | some i => exact ⟨.int i, rfl, .val (.int i)⟩
  | n + 3 => exact rfl
theorem Hs.back {K : PySem.W.Frag} {e : Ent} {B' H' : Hp} (em : e.M = NoM) (ab : a ≠ b) (na : B a = none) (nb : B b = none) (s : Hs B a b H0 ns st H) (g : Go K e (Bp B a b ns st) H B' H') : Hs B a b H0 ns st H' := by
  have e1 : Bp B a b ns st a = some (.lst [.ref b, .int st]) := upd_same
  have e2 : Bp B a b ns st b = some (.lst (ns.map V.int)) := by
    unfold Bp
    rw [upd_ne (Ne.symm ab)]
    exact upd_same
  have st1 : ∀ {x xs}, Bp B a b ns st x = some (.lst xs) → H' x = some (.lst xs) := fun {x xs} h => by
    rcases g.le _ _ (g.gr.b _ _ h) with z | ⟨_, _, z, _⟩
    · exact z
    · cases z
  have no : ∀ {x}, B x = none → x ≠ a → x ≠ b → Bp B a b ns st x = none := fun {x} h h1 h2 => by
    unfold Bp
    rw [upd_ne h1, upd_ne h2]
    exact h
  refine ⟨st1 e1, st1 e2, ⟨Sub.rfl', fun x u h0 hb hm => ?_, fun x o u h0 => g.gr.z _ _ _ (s.gr.z _ _ _ h0), fun x h0 => g.gr.p _ (s.gr.p _ h0), fun x h _ => h⟩, fun x u h => g.le _ _ (g.gr.b _ _ (Hs.sub na nb _ _ h))⟩
  have hm1 : x ≠ a := fun z => hm (.inl z)
  have hm2 : x ≠ b := fun z => hm (.inr z)
  exact g.gr.h _ _ (s.gr.h _ _ h0 hb hm) (no hb hm1 hm2) (by rw [em]; exact fun z => z)
/-- the inner list is written -/
theorem Hs.setB (ab : a ≠ b) (nb : B b = none) (s : Hs B a b H0 ns st H) (ms : List Int) : Hs B a b H0 ms st (upd H b (.lst (ms.map V.int))) := by
  have ne : ∀ {x o u}, H x = some (.frz o u) → x ≠ b := fun {x o u} h z => by rw [z, s.hb] at h; cases h
  refine ⟨by rw [upd_ne ab]; exact s.ha, upd_same, ⟨Sub.rfl', fun x u h0 hb hm => ?_, fun x o u h0 => ?_, fun x h0 => ?_, fun x h _ => h⟩, fun x u h => ?_⟩
  · rw [upd_ne fun z => hm (.inr z)]
    exact s.gr.h _ _ h0 hb hm
  · have := s.gr.z _ _ _ h0
    rw [upd_ne (ne this)]
    exact this
  · unfold upd
    split
    · simp
    · exact s.gr.p _ h0
  · have e2 : x ≠ b := fun z => by rw [z, nb] at h; cases h
    rw [upd_ne e2]
    exact s.le x u h
theorem Hs.setA (ab : a ≠ b) (na : B a = none) (s : Hs B a b H0 ns st H) (t : Int) : Hs B a b H0 ns t (upd H a (.lst [.ref b, .int t])) := by
  have ne : ∀ {x o u}, H x = some (.frz o u) → x ≠ a := fun {x o u} h z => by rw [z, s.ha] at h; cases h
  refine ⟨upd_same, by rw [upd_ne (Ne.symm ab)]; exact s.hb, ⟨Sub.rfl', fun x u h0 hb hm => ?_, fun x o u h0 => ?_, fun x h0 => ?_, fun x h _ => h⟩, fun x u h => ?_⟩
  · rw [upd_ne fun z => hm (.inl z)]
    exact s.gr.h _ _ h0 hb hm
  · have := s.gr.z _ _ _ h0
    rw [upd_ne (ne this)]
    exact this
  · unfold upd
    split
    · simp
    · exact s.gr.p _ h0
  · have e2 : x ≠ a := fun z => by rw [z, na] at h; cases h
    rw [upd_ne e2]
    exact s.le x u h
end
/-- what a draw may be -/
def S_draw : Sg := fun ds R => ∃ m : Int, ds = [.int m] ∧ 0 < m ∧ m < 1073741824 ∧ ∀ r : Int, 0 ≤ r → r < m → R (.val (.int r))
section
variable {K : PySem.W.Frag} {B H0 H : Hp} {a b : Addr} {ns : List Int} {st m : Int}
theorem pbR {X : Cx} {c : Expr} {en : Ent} {B H : Hp} {σ : L2.St} {Γ : List Dn.Slot} {T : Bool → Prop} {Q : Bool → Hp → Prop} (rp : Rp X.K en B H σ Γ) (h : PB X c Γ T) (q : ∀ k B' H', Go X.K en B H B' H' → T k → Q k H') : bT X c σ H Q := h en σ B H rp Q q
theorem ppR {X : Cx} {c : Expr} {en : Ent} {B H : Hp} {σ : L2.St} {Γ : List Dn.Slot} {P : D → Prop} {Q : VK} (rp : Rp X.K en B H σ Γ) (h : PP X c Γ P) (q : ∀ v d B' H', Go X.K en B H B' H' → P d → Dq X.K B' v d → Q v H') : bE X c σ H Q := h en σ B H rp Q q
theorem nz (ns : List Int) : (!PyData.eqv (O.val (D.lst (ns.map D.int))).toD.py (O.ls []).toD.py) = decide (ns ≠ []) := by
  cases ns with
  | nil => rfl
  | cons n ns => rfl
theorem sh_ints (ns : List Int) : Sh 1 (.lst (ns.map D.int)) := fun d hd => by
  obtain ⟨i, _, rfl⟩ := List.mem_map.mp hd
  trivial
theorem szN' {n : Nat} (h : n < 1000) : n < sizeLine := by rw [sizeLine_eq]; omega
theorem split_last : ∀ {ns : List Int}, ns ≠ [] → ∃ l x, ns = l ++ [x] := fun {ns} h => ⟨ns.dropLast, ns.getLast h, (List.dropLast_concat_getLast h).symm⟩
theorem b_draw (tx : Tx W) (hb : Bc W X ⟨k, n__law_draw, defScope s__law_draw, fun _ => true⟩) (ho : Own X) (le0 : Le B H0) (na : B a = none) (nb : B b = none) (ab : a ≠ b) (st0 : 0 ≤ st) (st1 : st < 2147483647) (m0 : 0 < m) (m1 : m < 1073741824)
    (ha : H0 a = some (.lst [.ref b, .int st])) (hbb : H0 b = some (.lst (ns.map V.int))) (D : Ends)
    (hz : ns.length ≤ 100) (q : ∀ r ns' st' H', ns'.length ≤ 100 → 0 ≤ r → r < m → 0 ≤ st' → st' < 2147483647 → Hs B a b H0 ns' st' H' → D.rt (.int r) H') :
    bSs X (defBody s__law_draw) D [some (.ref a), some (.int m), none] H0 := by
  have g1 := tx.g_int
  have pv0 : ∀ {p}, PE X (.Name "heap" p) (tVar 0) := fun {p} => pe_var (by rw [hb.nn]; rfl) (by rw [hb.sco]; exact Or.inl rfl) (by decide) (by decide)
  have s0 : Hs B a b H0 ns st H0 := ⟨ha, hbb, Gr.rfl', le0⟩
  -- while heap[0] != [] and heap[0][-1] == 0
  refine ⟨_, pss_cons (ps_while ho.1 (bt X _) (bss X _)) (bss X _), fun n σ H => σ = [some (.ref a), some (.int m), none] ∧ ∃ ns, n = ns.length ∧ ns.length ≤ 100 ∧ Hs B a b H0 ns st H, ⟨_, rfl, ns, rfl, hz, s0⟩, ?_⟩
  clear hz
  rintro n σ H ⟨rfl, ns, rfl, hz, s⟩
  refine pbR (T := fun kk => kk = true → ∃ l, ns = l ++ [0]) (s.rp (K := X.K) ab m none) ?_ fun kk B' H' g t => ?_
  · refine pb_c <| pc_a <| pb_cmp <| PP.pr <| pp_ix <| pp_nm hb rfl <| pp_int <| ix_lst rfl <| PO.pr <| po_lst <| pl_nil ⟨Nat.zero_le _, c_nev hb (sh_ints ns) (m := 1) (fun _ z => nomatch z) ?_⟩
    rw [nz]
    refine iD (fun h1 => ?_) fun h1 z => by cases z
    obtain ⟨l, x, rfl⟩ := split_last h1
    refine pc_a1 <| pb_cmp <| PP.pr <| pp_ix <| (pp_ix <| pp_nm hb rfl <| pp_int <| ix_lst rfl <| pp_neg <| pp_int ⟨1, rfl, ix_lst (d := .int x) ?_ <| rd_int <| c_eqI ?_⟩)
    · rw [List.map_append]
      exact atI_last
    · intro z
      have : x = 0 := by simpa using z
      exact ⟨l, by rw [this]⟩
  have s' := s.back rfl ab na nb g
  cases kk with
  | true =>
    obtain ⟨l, rfl⟩ := t rfl
    refine ⟨fun σ' H' => ∃ m', m' < (l ++ [(0 : Int)]).length ∧ σ' = [some (.ref a), some (.int m), none] ∧ ∃ ns, m' = ns.length ∧ ns.length ≤ 100 ∧ Hs B a b H0 ns st H', fun σ' H' z => z, ?_⟩
    refine ⟨_, pss_cons (ps_expr (pe_bm0 PySem.F.plainAttrs_list PySem.F.slot_list_pop PySem.F.type_list_pop mt_pop (pe_ix ix_list pv0 pe_int (by intro _ _; rfl)) rfl rfl) rfl) pss_nil, ?_⟩
    refine ⟨.ref a, rfl, a, _, 0, .ref b, rfl, rfl, .inl (.inl s'.ha), rfl, .inl ⟨rfl, _, .inl (.inl s'.hb)⟩, b, _, .int 0, rfl, rfl, s'.hb, ?_, ?_⟩
    · simp
    · refine ⟨l.length, by simp, rfl, l, rfl, by simp at hz; omega, ?_⟩
      have := s'.setB ab nb l
      simpa using this
  | false =>
    -- if heap[0] != []
    clear s s0 hbb ha t
    refine ⟨_, pss_cons (ps_if (bt X _) (bss X _) (bss X _)) (bss X _), ?_⟩
    refine pbR (T := fun kk => kk = decide (ns ≠ [])) (s'.rp (K := X.K) ab m none) ?_ fun kk B2 H2 g2 t => ?_
    · refine pb_cmp <| PP.pr <| pp_ix <| pp_nm hb rfl <| pp_int <| ix_lst rfl <| PO.pr <| po_lst <| pl_nil ⟨Nat.zero_le _, c_nev hb (sh_ints ns) (m := 1) (fun _ z => nomatch z) ?_⟩
      rw [nz]
    have s2 := s'.back rfl ab na nb g2
    subst t
    by_cases h1 : ns ≠ []
    · rw [decide_eq_true h1]
      obtain ⟨l, x, rfl⟩ := split_last h1
      refine ⟨_, pss_cons (ps_set (by rw [hb.nn]; exact hb.nd) (i := 2) (by rw [hb.nn]; rfl) (by rw [hb.sco]; exact Or.inl rfl) (pe_bm0 PySem.F.plainAttrs_list PySem.F.slot_list_pop PySem.F.type_list_pop mt_pop (pe_ix ix_list pv0 pe_int (by intro _ _; rfl)) rfl rfl) rfl (by rw [hb.fno]; exact Or.inl rfl)) (pss_cons (ps_expr (pe_bm PySem.F.plainAttrs_list PySem.F.slot_list_append PySem.F.type_list_append mt_append (pe_ix ix_list pv0 pe_int (by intro _ _; rfl)) (pa_cons (be X _) pa_nil rfl) rfl rfl rfl rfl rfl) rfl) (pss_cons (ps_ret (be X _)) pss_nil)), ?_⟩
      refine ⟨.ref a, rfl, a, _, 0, .ref b, rfl, rfl, .inl (.inl s2.ha), rfl, .inl ⟨rfl, _, .inl (.inl s2.hb)⟩, b, _, .int x, rfl, rfl, s2.hb, ?_, ?_⟩
      · simp
      have s3 : Hs B a b H0 l st (upd H2 b (.lst (((l ++ [x]).map V.int).dropLast))) := by
        have := s2.setB ab nb l
        simpa using this
      refine ⟨.ref a, rfl, a, _, 0, .ref b, rfl, rfl, .inl (.inl s3.ha), rfl, .inl ⟨rfl, _, .inl (.inl s3.hb)⟩, ?_⟩
      refine ppR (P := fun d => d = .int (x / m)) (s3.rp (K := X.K) ab m (some x)) ?_ fun v d B4 H4 g4 t mv => ?_
      · exact pp_op <| pp_nm hb rfl <| pp_nm hb rfl <| o_fdiv ⟨m0, m1⟩ rfl
      subst t
      cases mv
      have s4 := s3.back rfl ab na nb g4
      refine ⟨b, _, _, rfl, rfl, s4.hb, ?_, ?_⟩
      · rw [List.length_map]
        simp at hz
        exact szN' (by omega)
      have s5 : Hs B a b H0 (l ++ [x / m]) st (upd H4 b (.lst (l.map V.int ++ [V.int (x / m)]))) := by
        have := s4.setB ab nb (l ++ [x / m])
        simpa using this
      refine ppR (P := fun d => d = .int (x % m)) (s5.rp (K := X.K) ab m (some x)) ?_ fun v d B6 H6 g6 t mv => ?_
      · exact pp_op <| pp_ty hb (id := "int") <| pl1 <| pp_nm hb rfl <| i_int <| pp_nm hb rfl <| o_mod m0 rfl
      subst t
      cases mv
      exact q _ _ _ _ (by simpa using hz) (Int.emod_nonneg _ (by omega)) (Int.emod_lt_of_pos _ m0) st0 st1 (s5.back rfl ab na nb g6)
    · rw [decide_eq_false h1]
      refine ⟨_, pss_nil, ?_⟩
      refine ⟨_, pss_cons (ps_asg (be X _) (pg_sub pv0 pe_int set_list)) (pss_cons (ps_ret (be X _)) pss_nil), ?_⟩
      let st' := (st * 48271 + 11) % 2147483647
      refine ppR (P := fun d => d = .int st') (s2.rp (K := X.K) ab m none) ?_ fun v d B4 H4 g4 t mv => ?_
      · refine pp_op <| pp_ty hb (id := "int") <| pl1 <| pp_op <| pp_op <| pp_ix <| pp_nm hb rfl <| pp_int <| ix_lst rfl <| pp_int <| o_mul (.inl ⟨by omega, by omega⟩) <| pp_int <| o_add <| i_int <| pp_int <| o_mod (by decide) rfl
      subst t
      cases mv
      have s4 := s2.back rfl ab na nb g4
      refine ⟨.ref a, rfl, a, _, 1, 1, rfl, rfl, s4.ha, rfl, ?_⟩
      have s5 := s4.setA ab na st'
      refine ppR (P := fun d => d = .int (st' / 64 % m)) (s5.rp (K := X.K) ab m none) ?_ fun v d B6 H6 g6 t mv => ?_
      · refine pp_op <| pp_ty hb (id := "int") <| pl1 <| pp_op <| pp_ix <| pp_nm hb rfl <| pp_int <| ix_lst rfl <| pp_int <| o_fdiv ⟨by decide, by decide⟩ <| i_int <| pp_nm hb rfl <| o_mod m0 rfl
      subst t
      cases mv
      exact q _ _ _ _ hz (Int.emod_nonneg _ (by omega)) (Int.emod_lt_of_pos _ m0) (Int.emod_nonneg _ (by omega)) (Int.emod_lt_of_pos _ (by omega)) (s5.back rfl ab na nb g6)
end
theorem ih_tree {K : PySem.W.Frag} {M : Addr → Prop} {B H : Hp} {h : V} (w : BwOk K M (some (h, IH)) B H) : ∃ (a b : Addr) (ns : List Int) (st : Int), h = .ref a ∧ B a = none ∧ B b = none ∧ a ≠ b ∧ M a ∧ M b ∧ ns.length ≤ 100 ∧ 0 ≤ st ∧ st < 2147483647 ∧ H a = some (.lst [.ref b, .int st]) ∧ H b = some (.lst (ns.map V.int)) := by
  obtain ⟨o, f, ⟨ns, st, rfl, hz, s0, s1⟩, r, mf⟩ := w
  cases r with
  | @lst a xs _ f nB hH ol nf =>
    cases ol with
    | @cons v _ vs _ f1 g1 o1 o2 d =>
      cases o1 with
      | @lst b ys _ f2 nB2 hH2 ol2 nf2 =>
        obtain ⟨rfl, mm⟩ := ORL.vals_inv ol2
        have e := dq_ints mm
        subst e
        cases o2 with
        | cons o3 o4 d2 =>
          cases o4
          cases o3 with
          | val o5 =>
            cases o5
            exact ⟨a, b, ns, st, rfl, nB, nB2, fun z => nf (by subst z; simp), mf a (by simp), mf b (by simp), hz, s0, s1, hH, hH2⟩
theorem ih_back {K : PySem.W.Frag} {M : Addr → Prop} {B H : Hp} {a b : Addr} {ns : List Int} {st : Int} (na : B a = none) (nb : B b = none) (ab : a ≠ b) (ma : M a) (mb : M b) (hz : ns.length ≤ 100) (s0 : 0 ≤ st) (s1 : st < 2147483647) (ha : H a = some (.lst [.ref b, .int st])) (hb : H b = some (.lst (ns.map V.int))) : BwOk K M (some (.ref a, IH)) B H := by
  refine ⟨_, a :: ([b] ++ ([] ++ [])), ⟨ns, st, rfl, hz, s0, s1⟩, .lst na ha (.cons (.lst nb hb (ORL.vals ints_dq) (by simp)) (.cons (.val (.int _)) .nil (by simp)) (by simp)) (by simpa using ab), fun x hx => ?_⟩
  rcases List.mem_cons.mp hx with rfl | hx
  · exact ma
  · have : x = b := by simpa using hx
    rw [this]
    exact mb
theorem f_draw (tx : Tx W) : Df W 1 "_law_draw" (spB W.K IH 1 S_draw) := d__law_draw (fun f fd F m bn => by
  refine ⟨f, fd, ["heap", "many"], ?_, m, F.kp, bn⟩
  refine gn_of (k := 0) tx.calm F c__law_draw (fun vs H Q E h => ?_) fun X hb ho vs H Q E h => ?_
  · obtain ⟨_, _, _, _, _, _, rfl, h1, _⟩ := h
    simp [h1]
  obtain ⟨M, B, h0, ws, ds, R, rfl, hl, le, me, w, mq, ⟨mm, rfl, m0, m1, r⟩, q⟩ := h
  cases mq with
  | cons q1 q2 =>
    cases q2
    cases q1
    obtain ⟨a, b, ns, st, rfl, na, nb, ab, ma, mb, hz, s0, s1, ha, hbb⟩ := ih_tree w
    exact b_draw tx hb ho le na nb ab s0 s1 m0 m1 ha hbb _ hz fun i ns' st' H' z1 z2 z3 z4 z5 s => q (.int i) (.val (.int i)) [] B H' (s.gr.mono fun x z => by rcases z with rfl | rfl <;> assumption) s.le (ih_back na nb ab ma mb z1 z4 z5 s.ha s.hb) (r i z2 z3) (.val (.int _)) fun _ z => nomatch z) tx.F__law_draw
end T

/-! K84i: the law's heap, picks, its distance. -/
namespace T
open PySem PySem.Spec L2 RZ Dn
variable {W : Wd} {X : Cx} {k : Nat}
/-- a comprehension whose items are of a kind each -/
theorem lc_any {W : Wd} {bx : Bx} {Γ : List Dn.Slot} {β : Type} {scope : Scope} {tg elt : Expr} {vs : List Nat} {R : O → Prop} (enc : β → D) (good : β → Prop) {ds : List D} (hz : ds.length ≤ sizeLine) (h : ∀ bs : List β, bs.length = ds.length → (∀ b ∈ bs, good b) → R (O.ls (bs.map enc)))
    (hx : ∀ d ∈ ds, ∃ Γ2, (∀ X', Bc W X' (bx.blk scope) → PGd X' tg d (wipeG Γ vs) (· ∈ vs) fun z => z = Γ2) ∧ ∀ X', Bc W X' (bx.blk scope) → PP X' elt Γ2 fun o => ∃ b, good b ∧ o = enc b) : LcOk W bx scope tg [] elt Γ vs R ds := by
  refine ⟨hz, fun i acc => ∃ bs : List β, bs.length = i ∧ (∀ b ∈ bs, good b) ∧ acc = bs.map fun b => O.val (enc b), ⟨[], rfl, by simp, rfl⟩, fun acc e => ?_, fun i d acc hd e hl => ?_⟩
  · obtain ⟨bs, h1, h2, rfl⟩ := e
    have := h bs h1 h2
    simpa [O.ls, List.map_map, Function.comp_def] using this
  · obtain ⟨Γ2, h1, h2⟩ := hx d (List.mem_of_getElem? hd)
    refine ⟨Γ2, h1, fun k => k = true, fun X' hb => pts_no rfl, fun z => (by cases z), fun _ X' hb => ((h2 X' hb).imp fun o eo => ?_).po⟩
    obtain ⟨b, gb, rfl⟩ := eo
    obtain ⟨bs, g1, g2, rfl⟩ := e
    refine ⟨bs ++ [b], by simp [g1], fun c hc => ?_, by simp⟩
    rcases List.mem_append.mp hc with z | z
    · exact g2 c z
    · have : c = b := by simpa using z
      rw [this]
      exact gb
theorem lp_any {W : Wd} {bx : Bx} {Γ : List Dn.Slot} {β : Type} {scope : Scope} {tg elt : Expr} {vs : List Nat} {P : D → Prop} (enc : β → D) (good : β → Prop) {ds : List D} (hz : ds.length ≤ sizeLine) (h : ∀ bs : List β, bs.length = ds.length → (∀ b ∈ bs, good b) → P (.lst (bs.map enc)))
    (hx : ∀ d ∈ ds, ∃ Γ2, (∀ X', Bc W X' (bx.blk scope) → PGd X' tg d (wipeG Γ vs) (· ∈ vs) fun z => z = Γ2) ∧ ∀ X', Bc W X' (bx.blk scope) → PP X' elt Γ2 fun o => ∃ b, good b ∧ o = enc b) : LpOk W bx scope tg [] elt Γ vs P ds :=
  lc_any enc good hz (fun bs h1 h2 => by rw [toD_ls]; exact h bs h1 h2) hx

/-! ### the heap -/
def S_heap : Sg := fun ds R => ∃ ns : List Int, ds = [.scr ns] ∧ ∀ o, IH o → R o
theorem cut63 (ns : List Int) : cutD (ns.map D.int) none (some 63) = (ns.take 63).map D.int := by
  rw [show (some (63 : Int)) = some ((63 : Nat) : Int) from rfl, cutTo, List.map_take]
theorem b_heap (tx : Tx W) (hb : Bc W X ⟨k, n__law_heap, defScope s__law_heap, fun _ => true⟩) (ho : Own X) (ds : List D) (R : O → Prop) (_ : ds.length = 1) (h : S_heap ds R) :
    WSs X (defBody s__law_heap) (begin0 n__law_heap 1 (ds.map Slot.v)) { nx := fun _ => R (.val .non), rt := R } := by
  have g1 := tx.g_int
  have g2 := tx.g_abs
  obtain ⟨ns, rfl, r⟩ := h
  have hl : (ns.take 63).length ≤ 63 := by simp; omega
  refine wss_cons <| ws_par hb 1 2 <| plo_cons <| po_lc hb tx.calm [("cell", 3)] <| pit_lst <| pp_slS <| pp_nm hb rfl ⟨_, rfl, pp_int ⟨63, rfl, ⟨_, rfl, ?_⟩⟩⟩
  rw [cut63]
  generalize ns.take 63 = cs at hl
  refine lc_mapB D.int (fun i => .int (if i < 0 then -i else i)) (szN (by omega)) ?_ fun i hi => ⟨_, fun X' hb' => pgd_name hb' 3 (by simp) rfl, fun X' hb' => pp_cl hb' (id := "abs") <| pl1 <| pp_nm hb' rfl <| i_abs rfl⟩
  refine plo_cons <| PP.po <| pp_int <| plo_nil ⟨_, _, rfl, ?_⟩
  have e : (cs.map fun i => D.int (if i < 0 then -i else i)) = (cs.map fun i => if i < 0 then -i else i).map D.int := by rw [List.map_map]; rfl
  rw [e]
  have hl2 : (cs.map fun i => if i < 0 then -i else i).length ≤ 63 := by simpa using hl
  generalize (cs.map fun i => if i < 0 then -i else i) = zs at hl2
  refine wss_frz 1 rfl ?_
  rw [toD_ls]
  refine wss_cut (fun Γ' => ∃ st : Int, 0 ≤ st ∧ st < 2147483647 ∧ Γ' = [.v (.scr ns), .v (.lst (zs.map .int)), .v (.int st), .no]) (ws_for hb ho <| pit_lst <| pp_nm hb rfl ⟨_, rfl, fun i Γ' => ∃ st : Int, 0 ≤ st ∧ st < 2147483647 ∧ Γ' = [.v (.scr ns), .v (.lst (zs.map .int)), .v (.int st), .no], ⟨8027, by decide, by decide, rfl⟩, fun Γ' h => h, fun i d Γ' hd h => ?_⟩) fun Γ' h => ?_
  · obtain ⟨st, s0, s1, rfl⟩ := h
    obtain ⟨z, hz, rfl⟩ := List.mem_map.mp (List.mem_of_getElem? hd)
    refine pgd_name hb 3 trivial ?_
    refine wss_cons <| ws_set hb 2 <| PP.po <| pp_op <| pp_ty hb (id := "int") <| pl1 <| pp_op <| pp_op <| pp_op <| pp_nm hb rfl <| pp_int <| o_mul (.inl ⟨by omega, by omega⟩) <| pp_op <| pp_ty hb (id := "int") <| pl1 <| pp_nm hb rfl <| i_int <| pp_int <| o_mod (by decide) <| o_add <| pp_int <| o_add <| i_int <| pp_int <| o_mod (by decide) ?_
    exact wss_end [3] ⟨_, Int.emod_nonneg _ (by omega), Int.emod_lt_of_pos _ (by omega), rfl⟩
  · obtain ⟨st, s0, s1, rfl⟩ := h
    refine wss_cons <| ws_ret <| po_lstO <| plo_cons <| po_rev <| pp_lc hb tx.calm [("cell", 3)] <| pit_lst <| pp_nm hb rfl ⟨_, rfl, ?_⟩
    refine lp_filterB D.int (fun i => decide (10 ^ 18 ≤ i)) D.int (szN (by omega)) ⟨_, rfl, plo_cons <| PP.po <| pp_nm hb rfl <| plo_nil ⟨szN (by simp), r _ ⟨((zs.filter fun i => decide (10 ^ 18 ≤ i))).reverse, st, ?_, ?_, s0, s1⟩⟩⟩ fun i hi => ?_
    · rw [List.map_reverse]
    · have := List.length_filter_le (fun i : Int => decide (10 ^ 18 ≤ i)) zs
      rw [List.length_reverse]
      omega
    · refine ⟨_, fun X' hb' => pgd_name hb' 3 (by simp) rfl, fun X' hb' => ?_, fun _ X' hb' => pp_nm hb' rfl rfl⟩
      exact pb_cmp <| rd_nm hb' rfl <| PP.pr <| pp_op <| pp_int <| pp_int <| o_pow ⟨by decide, by decide, by decide⟩ <| c_ge rfl
theorem f_heap (tx : Tx W) : Df W 1 "_law_heap" (spP W.K 1 S_heap) := d__law_heap (fun f fd F m bn => Df.mkP tx.calm F m c__law_heap rfl bn fun X hb ho ds R hl h => b_heap (k := 0) tx hb ho ds R hl h) tx.F__law_heap
/-! ### pick -/
def S_pick : Sg := fun ds R => ∃ xs : List D, ds = [.lst xs] ∧ 0 < xs.length ∧ xs.length < 1073741824 ∧ ∀ d ∈ xs, R (.val d)
theorem b_pick (tx : Tx W) (hb : Bc W X ⟨k + 1, n__law_pick, defScope s__law_pick, fun _ => true⟩) (ho : Own X) (ds : List D) (R : O → Prop) (_ : ds.length = 1) (h : S_pick ds R) :
    WSs X (defBody s__law_pick) (begin0 n__law_pick 2 (.bor IH :: ds.map Slot.v)) { nx := fun _ => R (.val .non), rt := R } := by
  have g1 := tx.g_len
  obtain ⟨xs, rfl, h0, h1, r⟩ := h
  refine wss_cons <| ws_retP <| pp_ix <| pp_nm hb rfl <| pp_callB hb tx.calm 0 (f_draw tx) rfl (pl1 <| pp_cl hb (id := "len") <| pl1 <| pp_nm hb rfl <| l_len ⟨rfl, _, rfl, by omega, by omega, fun i i0 i1 => ?_⟩) (by show 1 ≤ k + 1; omega)
  have hi : i.toNat < xs.length := by omega
  exact ix_lst (atI_int i0 (List.getElem?_eq_getElem hi)) (r _ (List.getElem_mem hi))
theorem f_pick (tx : Tx W) : Df W 2 "_law_pick" (spB W.K IH 1 S_pick) := d__law_pick (fun f fd F m bn => Df.mkB tx.calm F m c__law_pick rfl bn fun X hb ho ds R hl h => b_pick (k := 0) tx hb ho ds R hl h) tx.F__law_pick
end T

/-! K84j: the law's distance; what it draws: rows, vectors, keys, worths, labels, items. -/
namespace T
open PySem PySem.Spec L2 RZ Dn
variable {W : Wd} {X : Cx} {k : Nat}
/-! ### the law's distance -/
def lawJ (kd : Str) (gs : List Int) : Int := if kd = "square" then (gs.map fun g => g * g).sum else if kd = "sum" then gs.sum else if kd = "most" then mxD 0 gs else ((gs.filter fun g => decide (0 < g)).length : Nat)
theorem foldl_max_le : ∀ (gs : List Int) (m : Int), m ≤ gs.foldl max m ∧ (∀ y ∈ gs, y ≤ gs.foldl max m) ∧ (gs.foldl max m = m ∨ gs.foldl max m ∈ gs)
  | [], m => ⟨Int.le_refl _, (fun _ z => nomatch z), .inl rfl⟩
  | g :: gs, m => by
    obtain ⟨h1, h2, h3⟩ := foldl_max_le gs (max m g)
    show m ≤ gs.foldl max (max m g) ∧ (∀ y ∈ g :: gs, y ≤ gs.foldl max (max m g)) ∧ (gs.foldl max (max m g) = m ∨ gs.foldl max (max m g) ∈ g :: gs)
    refine ⟨by omega, fun y hy => ?_, ?_⟩
    · rcases List.mem_cons.mp hy with rfl | hy
      · omega
      · exact h2 y hy
    · rcases h3 with h3 | h3
      · rw [h3]
        by_cases q : m ≤ g
        · exact .inr (by rw [show max m g = g by omega]; exact List.mem_cons_self)
        · exact .inl (by omega)
      · exact .inr (List.mem_cons_of_mem _ h3)
theorem mx_is {gs : List Int} {m : Int} (h : m ∈ gs) (hm : ∀ y ∈ gs, y ≤ m) : mxD 0 gs = m := by
  cases gs with
  | nil => cases h
  | cons g gs =>
    obtain ⟨h1, h2, h3⟩ := foldl_max_le gs g
    show gs.foldl max g = m
    have a1 : m ≤ gs.foldl max g := by
      rcases List.mem_cons.mp h with rfl | h
      · exact h1
      · exact h2 m h
    have a2 : gs.foldl max g ≤ m := by
      rcases h3 with h3 | h3
      · rw [h3]; exact hm _ List.mem_cons_self
      · exact hm _ (List.mem_cons_of_mem _ h3)
    omega
def S_joinedL : Sg := fun ds R => ∃ (kd : Str) (gs : List Int), ds = [.str kd, .lst (gs.map .int)] ∧ 0 < gs.length ∧ gs.length ≤ 1000 ∧ (∀ g ∈ gs, g.natAbs < 2 ^ 62) ∧ R (.val (.int (lawJ kd gs)))
theorem b_joinedL (tx : Tx W) (hb : Bc W X ⟨k, n__law_joined, defScope s__law_joined, fun _ => true⟩) (ho : Own X) (ds : List D) (R : O → Prop) (_ : ds.length = 2) (h : S_joinedL ds R) :
    WSs X (defBody s__law_joined) (begin0 n__law_joined 2 (ds.map Slot.v)) { nx := fun _ => R (.val .non), rt := R } := by
  have g1 := tx.g_sum
  have g2 := tx.g_max
  have g3 := tx.g_len
  obtain ⟨kd, gs, rfl, h0, hz, hg, r⟩ := h
  unfold lawJ at r
  refine wss_cons <| ws_if <| pb_eS <| pp_nm hb rfl ⟨_, rfl, iD (fun e => ?_) fun e => wss_nil ?_⟩
  · rw [if_pos e] at r
    refine wss_cons <| ws_retP <| pp_cl hb (id := "sum") <| pl1 <| pp_lc hb tx.calm [("gap", 2)] <| pit_lst <| pp_nm hb rfl ⟨_, rfl, ?_⟩
    refine lp_mapB D.int (fun g => .int (g * g)) (szN hz) ?_ fun g hgm => ⟨_, fun X' hb' => pgd_name hb' 2 (by simp) rfl, fun X' hb' => pp_op <| pp_nm hb' rfl <| pp_nm hb' rfl <| o_mul (.inl ?_) rfl⟩
    · rw [show (gs.map fun g => D.int (g * g)) = (gs.map fun g => g * g).map D.int by rw [List.map_map]; rfl]
      exact l_sum hb r
    · have := hg g hgm
      omega
  rw [if_neg e] at r
  refine wss_cons <| ws_if <| pb_eS <| pp_nm hb rfl ⟨_, rfl, iD (fun e => ?_) fun e => wss_nil ?_⟩
  · rw [if_pos e] at r
    exact wss_cons <| ws_retP <| pp_cl hb (id := "sum") <| pl1 <| pp_nm hb rfl <| l_sum hb r
  rw [if_neg e] at r
  refine wss_cons <| ws_retP <| pp_if <| pb_eS <| pp_nm hb rfl ⟨_, rfl, iD (fun e => ?_) fun e => ?_⟩
  · rw [if_pos e] at r
    refine pp_cl hb (id := "max") <| pl1 <| pp_nm hb rfl <| l_max hb h0 fun m h1 h2 => ?_
    rw [mx_is h1 h2] at r
    exact r
  · rw [if_neg e] at r
    refine pp_cl hb (id := "len") <| pl1 <| pp_lc hb tx.calm [("gap", 2)] <| pit_lst <| pp_nm hb rfl ⟨_, rfl, ?_⟩
    refine lp_filterB D.int (fun g => decide (0 < g)) D.int (szN hz) (l_len ?_) fun g hgm => ⟨_, fun X' hb' => pgd_name hb' 2 (by simp) rfl, fun X' hb' => ?_, fun _ X' hb' => pp_nm hb' rfl rfl⟩
    · rw [List.length_map]
      exact r
    · exact pb_gI <| pp_nm hb' rfl ⟨_, rfl, pp_int ⟨_, rfl, rfl⟩⟩
theorem f_joinedL (tx : Tx W) : Df W 1 "_law_joined" (spP W.K 2 S_joinedL) := d__law_joined (fun f fd F m bn => Df.mkP tx.calm F m c__law_joined rfl bn fun X hb ho ds R hl h => b_joinedL (k := 0) tx hb ho ds R hl h) tx.F__law_joined
def absd (v u : List Int) : List Int := (diffs v u).map fun d => if d < 0 then -d else d
theorem zip_abs : ∀ v u : List Int, (zipD (v.map D.int) (u.map D.int)).map (fun d => match subD d with | .int i => .int (if i < 0 then -i else i) | d => d) = (absd v u).map D.int
  | [], _ => by simp [zipD, diffs, absd]
  | _ :: _, [] => by simp [zipD, diffs, absd]
  | x :: v, y :: u => by
    have ih := zip_abs v u
    simp only [zipD, diffs, absd, List.map_cons, List.zipWith_cons_cons, List.cons.injEq] at ih ⊢
    exact ⟨rfl, ih⟩
/-- the law's kinds -/
def KD (kd : Str) : Prop := kd = "square" ∨ kd = "sum" ∨ kd = "most" ∨ kd = "unlike"
theorem lawJ_dist {kd : Str} (hk : KD kd) (v u : List Int) : lawJ kd (absd v u) = dist kd v u := by
  unfold dist joined lawJ absd
  generalize diffs v u = ds
  rcases hk with rfl | rfl | rfl | rfl
  · have e1 : partOf "square" = fun d => d * d := by
      funext d
      simp [partOf]
    rw [e1, if_pos rfl, if_neg (by decide), List.map_map]
    congr 1
    refine List.map_congr_left fun d _ => ?_
    show (if d < 0 then -d else d) * (if d < 0 then -d else d) = d * d
    split
    · rw [Int.neg_mul_neg]
    · rfl
  · have e1 : partOf "sum" = fun d => if d < 0 then -d else d := by
      funext d
      rw [partOf, if_neg (by decide), if_neg (by decide)]
    rw [e1, if_neg (by decide), if_pos rfl, if_neg (by decide)]
  · have e1 : partOf "most" = fun d => if d < 0 then -d else d := by
      funext d
      rw [partOf, if_neg (by decide), if_neg (by decide)]
    rw [e1, if_neg (by decide), if_neg (by decide), if_pos rfl, if_pos rfl]
  · have e1 : partOf "unlike" = fun d => if d = 0 then 0 else 1 := by
      funext d
      rw [partOf, if_neg (by decide), if_pos rfl]
    rw [e1, if_neg (by decide), if_neg (by decide), if_neg (by decide), if_neg (by decide)]
    induction ds with
    | nil => rfl
    | cons d ds ih =>
      simp only [List.map_cons, List.sum_cons]
      rw [← ih]
      by_cases h : d = 0
      · subst h
        simp
      · have h2 : 0 < (if d < 0 then -d else d) := by split <;> omega
        rw [List.filter_cons, if_pos (by simpa using h2), if_neg h, List.length_cons]
        omega
theorem diffs_mem : ∀ {v u : List Int} {d : Int}, d ∈ diffs v u → ∃ x ∈ v, ∃ y ∈ u, d = x - y
  | [], _, d, h => by simp [diffs] at h
  | _ :: _, [], d, h => by simp [diffs] at h
  | x :: v, y :: u, d, h => by
    have h' : d = x - y ∨ d ∈ diffs v u := by simpa [diffs] using h
    rcases h' with rfl | h'
    · exact ⟨x, List.mem_cons_self, y, List.mem_cons_self, rfl⟩
    · obtain ⟨x', h1, y', h2, e⟩ := diffs_mem h'
      exact ⟨x', List.mem_cons_of_mem _ h1, y', List.mem_cons_of_mem _ h2, e⟩
def S_distL : Sg := fun ds R => ∃ (kd : Str) (v u : List Int), ds = [.str kd, dV v, dV u] ∧ KD kd ∧ Near v ∧ Near u ∧ v.length = u.length ∧ 0 < v.length ∧ v.length ≤ 1000 ∧ R (.val (.int (dist kd v u)))
theorem b_distL (tx : Tx W) (hb : Bc W X ⟨k + 1, n__law_distance, defScope s__law_distance, fun _ => true⟩) (ho : Own X) (ds : List D) (R : O → Prop) (_ : ds.length = 3) (h : S_distL ds R) :
    WSs X (defBody s__law_distance) (begin0 n__law_distance 3 (ds.map Slot.v)) { nx := fun _ => R (.val .non), rt := R } := by
  have g1 := tx.g_abs
  have g2 := tx.g_zip
  obtain ⟨kd, v, u, rfl, hk, nv, nu, he, h0, hz, r⟩ := h
  have hdl : (diffs v u).length = v.length := by simp [diffs]; omega
  have hzl : (zipD (v.map D.int) (u.map D.int)).length = v.length := by simp [zipD]; omega
  refine wss_cons <| ws_ret <| po_call hb tx.calm (f_joinedL tx) (pl2 <| pp_nm hb rfl <| pp_lc hb tx.calm [("mine", 3), ("yours", 4)] <| pit_zip hb <| pl2 <| pp_nm hb rfl <| pp_nm hb rfl ⟨_, _, .inr rfl, ?_⟩) (by show 1 ≤ k + 1; omega)
  refine lp_map (fun d => match subD d with | .int i => .int (if i < 0 then -i else i) | d => d) (by rw [hzl]; exact szN hz) ⟨rfl, kd, absd v u, by rw [zip_abs], ?_, ?_, fun g hg => ?_, by rw [lawJ_dist hk]; exact r⟩ fun d hd => ?_
  · simp [absd]; omega
  · simp [absd]; omega
  · obtain ⟨d, hd, rfl⟩ := List.mem_map.mp hg
    obtain ⟨x, hx, y, hy, rfl⟩ := diffs_mem hd
    have := nv x hx
    have := nu y hy
    split <;> omega
  · obtain ⟨i, hi⟩ := List.getElem?_of_mem hd
    obtain ⟨x, y, h1, h2, rfl⟩ := zipD_get hi
    rw [List.getElem?_map] at h1 h2
    cases q1 : v[i]? with
    | none => rw [q1] at h1; cases h1
    | some x' =>
      cases q2 : u[i]? with
      | none => rw [q2] at h2; cases h2
      | some y' =>
        rw [q1] at h1
        rw [q2] at h2
        cases h1
        cases h2
        refine ⟨_, fun X' hb' => pgd_tup hb' (pgs_cons (pgd_name hb' 3 (by simp) (pgs_cons (pgd_name hb' 4 (by simp) (pgs_nil rfl))))), fun X' hb' => ?_⟩
        exact pp_cl hb' (id := "abs") <| pl1 <| pp_op <| pp_nm hb' rfl <| pp_nm hb' rfl <| o_sub <| i_abs rfl
theorem f_distL (tx : Tx W) : Df W 2 "_law_distance" (spP W.K 3 S_distL) := d__law_distance (fun f fd F m bn => Df.mkP tx.calm F m c__law_distance rfl bn fun X hb ho ds R hl h => b_distL (k := 0) tx hb ho ds R hl h) tx.F__law_distance
end T

/-! K84k: rows, vectors, keys, worths, labels, items. -/
namespace T
open PySem PySem.Spec L2 RZ Dn
variable {W : Wd} {X : Cx} {k : Nat}
theorem int_mem {l : List Int} {d : D} (p : Int → Prop) (h : d ∈ l.map D.int) (q : ∀ x ∈ l, p x) : ∃ w, d = .int w ∧ p w := by
  obtain ⟨x, hx, rfl⟩ := List.mem_map.mp h
  exact ⟨x, rfl, q x hx⟩
theorem rng_mem {n : Nat} {d : D} (h : d ∈ rngD 0 n) : ∃ i : Nat, i < n ∧ d = .int i := by
  obtain ⟨i, hi⟩ := List.getElem?_of_mem h
  obtain ⟨h1, rfl⟩ := rngD_get hi
  exact ⟨i, h1, by rw [Int.zero_add]⟩
/-! ### a row -/
def S_row : Sg := fun ds R => ∃ many : Nat, ds = [.int many] ∧ many ≤ 1000 ∧ ∀ xs : List Int, xs.length = many → Near xs → R (O.ls (xs.map .int))
theorem b_row (tx : Tx W) (hb : Bc W X ⟨k + 2, n__law_row, defScope s__law_row, fun _ => true⟩) (ho : Own X) (ds : List D) (R : O → Prop) (_ : ds.length = 1) (h : S_row ds R) :
    WSs X (defBody s__law_row) (begin0 n__law_row 2 (.bor IH :: ds.map Slot.v)) { nx := fun _ => R (.val .non), rt := R } := by
  have g1 := tx.g_int
  have g2 := tx.g_range
  obtain ⟨many, rfl, hz, r⟩ := h
  refine wss_cons <| ws_set hb 2 <| PP.po <| pp_callB hb tx.calm 0 (f_pick tx) rfl (pl1 <| PO.pp <| po_lst <| pl_cons <| pp_int <| pl_cons <| pp_int <| pl_cons <| pp_int <| pl_cons <| pp_int <| pl_cons <| pp_int <| pl_cons <| pp_int <| pl_cons <| pp_int <| pl_cons <| pp_int <| pl_cons <| pp_int <| pl_cons <| pp_int <| pl_nil ⟨szN (by decide), rfl, _, rfl, by decide, by decide, fun d hd => ?_⟩) (by show 2 ≤ k + 2; omega)
  obtain ⟨w, rfl, w0, w1⟩ := int_mem (l := [1, 2, 3, 7, 20, 101, 400, 401, 9973, 9973]) (fun w => 1 ≤ w ∧ w ≤ 9973) hd (by decide)
  have q0 : 1 ≤ 10000 / w := by
    rw [Int.le_ediv_iff_mul_le (by omega)]
    omega
  have q1 : 10000 / w ≤ 10000 := Int.ediv_le_self _ (by decide)
  refine wss_cons <| ws_asgT hb <| pp_tup <| pl2 <| pp_op <| pp_int <| pp_callB hb tx.calm 0 (f_draw tx) rfl (pl1 <| pp_op <| pp_int <| pp_nm hb rfl <| o_fdiv ⟨by omega, by omega⟩ ⟨rfl, _, rfl, by omega, by omega, fun s s0 s1 => o_add <| pp_callB hb tx.calm 0 (f_draw tx) rfl (pl1 <| pp_int ⟨rfl, _, rfl, by decide, by decide, fun l l0 l1 => ⟨szN (by simp), pgd_tup hb <| pgs_cons <| pgd_name hb 3 trivial <| pgs_cons <| pgd_name hb 4 trivial <| pgs_nil ?_⟩⟩) (by show 1 ≤ k + 2; omega)⟩) (by show 1 ≤ k + 2; omega)
  refine wss_cons <| ws_asgT hb <| pp_tup <| pl3 <| pp_callB hb tx.calm 0 (f_draw tx) rfl (pl1 <| pp_nm hb rfl ⟨rfl, w, rfl, by omega, by omega, fun t t0 t1 => pp_callB hb tx.calm 0 (f_draw tx) rfl (pl1 <| pp_nm hb rfl ⟨rfl, w, rfl, by omega, by omega, fun f f0 f1 => pp_callB hb tx.calm 0 (f_pick tx) rfl (pl1 <| PO.pp <| po_lst <| pl_cons <| pp_int <| pl_cons <| pp_int <| pl_cons <| pp_int <| pl_cons <| pp_int <| pl_cons <| pp_int <| pl_nil ⟨szN (by decide), rfl, _, rfl, by decide, by decide, fun d hd => ?_⟩) (by show 2 ≤ k + 2; omega)⟩) (by show 1 ≤ k + 2; omega)⟩) (by show 1 ≤ k + 2; omega)
  obtain ⟨u, rfl, u0, u1⟩ := int_mem (l := [1, 1, 2, 20, 50]) (fun w => 1 ≤ w ∧ w ≤ 50) hd (by decide)
  refine ⟨szN (by simp), pgd_tup hb <| pgs_cons <| pgd_name hb 5 trivial <| pgs_cons <| pgd_name hb 6 trivial <| pgs_cons <| pgd_name hb 7 trivial <| pgs_nil ?_⟩
  refine wss_cons <| ws_ret <| po_lc hb tx.calm [("at", 8)] <| pit_rng1 hb <| pl1 <| pp_nm hb rfl ⟨many, rfl, by omega, by omega, ?_⟩
  refine lc_any D.int (fun x => x.natAbs < 2 ^ 40) (by rw [rngD_len]; exact szN (by omega)) (fun bs h1 h2 => r bs (by rw [h1, rngD_len]; simp) h2) fun d hd => ?_
  obtain ⟨i, hi, rfl⟩ := rng_mem hd
  refine ⟨_, fun X' hb' => pgd_name hb' 8 (by simp) rfl, fun X' hb' => ?_⟩
  refine pp_op <| pp_op <| pp_op <| pp_ty hb' (id := "int") <| pl1 <| pp_op <| pp_op <| pp_nm hb' rfl <| pp_op <| pp_nm hb' rfl <| pp_nm hb' rfl <| o_fdiv ⟨by omega, by omega⟩ <| o_mul (.inl ⟨by omega, by omega⟩) <| pp_nm hb' rfl <| o_add <| i_int <| pp_nm hb' rfl <| o_mod (by omega) <| pp_nm hb' rfl <| o_mul ?_ <| pp_nm hb' rfl <| o_sub ⟨_, ?_, rfl⟩
  · have := Int.emod_nonneg (t * (i / u) + f) (b := w) (by omega)
    have := Int.emod_lt_of_pos (t * (i / u) + f) (b := w) (by omega)
    exact .inl ⟨by omega, by omega⟩
  · have a0 := Int.emod_nonneg (t * (i / u) + f) (b := w) (by omega)
    have a1 := Int.emod_lt_of_pos (t * (i / u) + f) (b := w) (by omega)
    generalize (t * (i / u) + f) % w = y at a0 a1
    have b0 : 0 ≤ y * (1 + s) := Int.mul_nonneg a0 (by omega)
    have b1 : y * (1 + s) ≤ 9973 * 10001 := Int.mul_le_mul (by omega) (by omega) (by omega) (by decide)
    omega
theorem f_row (tx : Tx W) : Df W 3 "_law_row" (spB W.K IH 1 S_row) := d__law_row (fun f fd F m bn => Df.mkB tx.calm F m c__law_row rfl bn fun X hb ho ds R hl h => b_row (k := 0) tx hb ho ds R hl h) tx.F__law_row
end T

/-! K84l: vectors, keys. -/
namespace T
open PySem PySem.Spec L2 RZ Dn
variable {W : Wd} {X : Cx} {k : Nat}
def S_vectors : Sg := fun ds R => ∃ many places : Nat, ds = [.int many, .int places] ∧ 0 < many ∧ many ≤ 1000 ∧ places ≤ 1000 ∧ ∀ vs : List (List Int), vs.length = many → (∀ v ∈ vs, v.length = places ∧ Near v) → R (O.ls (vs.map dV))
theorem b_vectors (tx : Tx W) (hb : Bc W X ⟨k + 3, n__law_vectors, defScope s__law_vectors, fun _ => true⟩) (ho : Own X) (ds : List D) (R : O → Prop) (_ : ds.length = 2) (h : S_vectors ds R) :
    WSs X (defBody s__law_vectors) (begin0 n__law_vectors 3 (.bor IH :: ds.map Slot.v)) { nx := fun _ => R (.val .non), rt := R } := by
  have g1 := tx.g_tuple
  have g2 := tx.g_range
  obtain ⟨many, places, rfl, h0, hz, hp, r⟩ := h
  refine wss_cons <| ws_setC hb 3 <| po_lc hb tx.calm [("place", 4)] <| pit_rng1 hb <| pl1 <| pp_nm hb rfl ⟨places, rfl, by omega, by omega, ?_⟩
  refine lc_any (fun xs : List Int => .lst (xs.map .int)) (fun xs => xs.length = many ∧ Near xs) (by rw [rngD_len]; exact szN (by omega)) (fun rows hl hg => ?_) fun d hd => ?_
  case refine_2 =>
    obtain ⟨i, hi, rfl⟩ := rng_mem hd
    refine ⟨_, fun X' hb' => pgd_name hb' 4 (by simp) rfl, fun X' hb' => ?_⟩
    exact pp_callB hb' tx.calm 0 (f_row tx) rfl (pl1 <| pp_nm hb' rfl ⟨rfl, many, rfl, hz, fun xs h1 h2 => ⟨xs, ⟨h1, h2⟩, toD_ls _⟩⟩) (by show 3 ≤ k + 3; omega)
  have hl' : rows.length = places := by rw [hl, rngD_len]; simp
  refine wss_frz 3 rfl ?_
  rw [toD_ls]
  refine wss_cons <| ws_all (ws_setLc hb tx.calm [("at", 7)] 5 (pit_any <| pit_rng1 hb <| pl1 <| pp_nm hb rfl ⟨many, rfl, by omega, by omega, ?_⟩)) (fun _ _ _ => trivial)
  refine lc_any dV (fun v => v.length = places ∧ Near v) (by rw [rngD_len]; exact szN (by omega)) (fun vs hvl hvg => ?_) fun d hd => ?_
  case refine_2 =>
    obtain ⟨i, hi, rfl⟩ := rng_mem hd
    have hi' : i < many := by simpa using hi
    refine ⟨_, fun X' hb' => pgd_name hb' 7 (by simp) rfl, fun X' hb' => ?_⟩
    refine pp_ty hb' (id := "tuple") <| pl1 <| pp_lc hb' tx.calm [("row", 6)] <| pit_lst <| pp_nm hb' rfl ⟨_, rfl, ?_⟩
    refine lp_mapB (fun xs : List Int => .lst (xs.map .int)) (fun xs => .int (xs.getD i 0)) (szN (by omega)) (l_tuple ⟨rows.map fun xs => xs.getD i 0, ⟨by simpa using hl', fun x hx => ?_⟩, ?_⟩) fun xs hxs => ?_
    · obtain ⟨xs, hxs, rfl⟩ := List.mem_map.mp hx
      obtain ⟨e1, e2⟩ := hg xs hxs
      have hi2 : i < xs.length := by omega
      rw [List.getD_eq_getElem?_getD, List.getElem?_eq_getElem hi2]
      exact e2 _ (List.getElem_mem hi2)
    · unfold dV
      rw [List.map_map]
      rfl
    · obtain ⟨e1, e2⟩ := hg xs hxs
      have hi2 : i < xs.length := by omega
      refine ⟨_, fun X2 hb2 => pgd_name hb2 6 (by simp) rfl, fun X2 hb2 => ?_⟩
      refine pp_ix <| pp_nm hb2 rfl <| pp_nm hb2 rfl <| ix_lst (atI_nat (x := .int (xs.getD i 0)) ?_) rfl
      rw [List.getElem?_map, List.getD_eq_getElem?_getD, List.getElem?_eq_getElem hi2]
      rfl
  have hvl' : vs.length = many := by rw [hvl, rngD_len]; simp
  let Γ1 : List (List Int) → List Dn.Slot := fun vs => [.bor IH, .v (.int many), .v (.int places), .v (.lst (rows.map fun xs => .lst (xs.map .int))), .no, .own (O.ls (vs.map dV)), .no, .no, .no]
  refine wss_cut (fun Γ' => ∃ vs : List (List Int), vs.length = many ∧ (∀ v ∈ vs, v.length = places ∧ Near v) ∧ Γ' = Γ1 vs) (ws_for hb ho <| pit_rng1 hb <| pl1 <| pp_int ⟨3, rfl, by decide, by decide, fun i Γ' => ∃ vs : List (List Int), vs.length = many ∧ (∀ v ∈ vs, v.length = places ∧ Near v) ∧ Γ' = Γ1 vs, ⟨vs, hvl', hvg, rfl⟩, fun Γ' h => h, fun i d Γ' hd h => ?_⟩) fun Γ' h => ?_
  · obtain ⟨vs, v1, v2, rfl⟩ := h
    obtain ⟨_, rfl⟩ := rngD_get hd
    refine pgd_name hb 8 trivial ?_
    refine wss_cons <| ws_setAt hb 5 rfl (pp_ty hb (id := "tuple") <| pl1 <| pp_lc hb tx.calm [("place", 4)] <| pit_rng1 hb <| pl1 <| pp_nm hb rfl ⟨places, rfl, by omega, by omega, ?_⟩)
    refine lp_any D.int (fun x => x.natAbs < 2 ^ 40) (by rw [rngD_len]; exact szN (by omega)) (fun xs h1 h2 => l_tuple ?_) fun d hd => ?_
    · refine pp_callB hb tx.calm 0 (f_draw tx) rfl (pl1 <| pp_nm hb rfl ⟨rfl, (many : Int), rfl, by omega, by omega, fun j j0 j1 => ⟨j, rfl, j0, by simp; omega, ?_⟩⟩) (by show 1 ≤ k + 3; omega)
      refine wss_end [8] ⟨vs.set j.toNat xs, by simpa using v1, fun v hv => ?_, ?_⟩
      · rcases List.mem_or_eq_of_mem_set hv with z | rfl
        · exact v2 v z
        · exact ⟨by rw [h1, rngD_len]; simp, h2⟩
      · show _ = Γ1 (vs.set j.toNat xs)
        have e : (vs.set j.toNat xs).map dV = (vs.map dV).set j.toNat (.tup (xs.map .int)) := by rw [List.map_set]; rfl
        exact congrArg (fun z : List D => ([.bor IH, .v (.int many), .v (.int places), .v (.lst (rows.map fun xs => .lst (xs.map .int))), .no, .own (O.ls z), .no, .no, .no] : List Dn.Slot)) e.symm
    · obtain ⟨i, hi, rfl⟩ := rng_mem hd
      refine ⟨_, fun X' hb' => pgd_name hb' 4 (by simp) rfl, fun X' hb' => ?_⟩
      exact pp_op <| pp_callB hb' tx.calm 0 (f_draw tx) rfl (pl1 <| pp_int ⟨rfl, _, rfl, by decide, by decide, fun x x0 x1 => pp_int <| o_sub ⟨_, by omega, rfl⟩⟩) (by show 1 ≤ k + 3; omega)
  · obtain ⟨vs, v1, v2, rfl⟩ := h
    exact wss_cons <| ws_retO hb 5 rfl (r vs v1 v2)
theorem f_vectors (tx : Tx W) : Df W 4 "_law_vectors" (spB W.K IH 2 S_vectors) := d__law_vectors (fun f fd F m bn => Df.mkB tx.calm F m c__law_vectors rfl bn fun X hb ho ds R hl h => b_vectors (k := 0) tx hb ho ds R hl h) tx.F__law_vectors
/-! ### keys -/
theorem small_apart : ∀ d : Nat, d < 400 → 0 < d → Nat.gcd 409 d = 1 ∧ Nat.gcd 999999937 d = 1 := by decide +kernel
theorem key_ne {p t f i j : Nat} (hp : p = 409 ∨ p = 999999937) (t0 : 0 < t) (t1 : t < p) (hij : i < j) (hj : j < 400) : (t * i + f) % p ≠ (t * j + f) % p := by
  intro h
  have hd : p ∣ t * (j - i) := by
    have h1 := Nat.sub_mod_eq_zero_of_mod_eq h.symm
    have e : t * j + f - (t * i + f) = t * (j - i) := by
      rw [Nat.add_sub_add_right, Nat.mul_sub]
    rw [e] at h1
    exact Nat.dvd_of_mod_eq_zero h1
  have hg : Nat.Coprime p (j - i) := by
    obtain ⟨g1, g2⟩ := small_apart (j - i) (by omega) (by omega)
    rcases hp with rfl | rfl
    · exact g1
    · exact g2
  have := Nat.le_of_dvd t0 (hg.dvd_of_dvd_mul_right hd)
  omega
def S_keys : Sg := fun ds R => ∃ many : Nat, ds = [.int many] ∧ many ≤ 400 ∧ ∀ ks : List Int, ks.length = many → ks.Nodup → (∀ x ∈ ks, 0 ≤ x ∧ x < 999999937) → R (O.ls (ks.map .int))
theorem b_keys (tx : Tx W) (hb : Bc W X ⟨k + 2, n__law_keys, defScope s__law_keys, fun _ => true⟩) (ho : Own X) (ds : List D) (R : O → Prop) (_ : ds.length = 1) (h : S_keys ds R) :
    WSs X (defBody s__law_keys) (begin0 n__law_keys 2 (.bor IH :: ds.map Slot.v)) { nx := fun _ => R (.val .non), rt := R } := by
  have g1 := tx.g_int
  have g2 := tx.g_range
  obtain ⟨many, rfl, hz, r⟩ := h
  refine wss_cons <| ws_set hb 2 <| PP.po <| pp_callB hb tx.calm 0 (f_pick tx) rfl (pl1 <| PO.pp <| po_lst <| pl_cons <| pp_int <| pl_cons <| pp_int <| pl_cons <| pp_int <| pl_nil ⟨szN (by decide), rfl, _, rfl, by decide, by decide, fun d hd => ?_⟩) (by show 2 ≤ k + 2; omega)
  obtain ⟨p, rfl, hp⟩ := int_mem (l := [409, 409, 999999937]) (fun w => w = 409 ∨ w = 999999937) hd (by decide)
  refine wss_cons <| ws_asgT hb <| pp_tup <| pl2 <| pp_op <| pp_int <| pp_callB hb tx.calm 0 (f_draw tx) rfl (pl1 <| pp_op <| pp_nm hb rfl <| pp_int <| o_sub ⟨rfl, _, rfl, by omega, by omega, fun t t0 t1 => o_add <| pp_callB hb tx.calm 0 (f_draw tx) rfl (pl1 <| pp_nm hb rfl ⟨rfl, p, rfl, by omega, by omega, fun f f0 f1 => ⟨szN (by simp), pgd_tup hb <| pgs_cons <| pgd_name hb 3 trivial <| pgs_cons <| pgd_name hb 4 trivial <| pgs_nil ?_⟩⟩) (by show 1 ≤ k + 2; omega)⟩) (by show 1 ≤ k + 2; omega)
  refine wss_cons <| ws_ret <| po_lc hb tx.calm [("at", 5)] <| pit_rng1 hb <| pl1 <| pp_nm hb rfl ⟨many, rfl, by omega, by omega, ?_⟩
  have er : rngD 0 (many : Int).toNat = (List.range many).map fun i => D.int (i : Nat) := by simp [rngD]
  rw [er]
  refine lc_mapB (fun i : Nat => D.int i) (fun i => .int (((1 + t) * i + f) % p)) (szN (by simp; omega)) ?_ fun i hi => ?_
  · have e : ((List.range many).map fun (i : Nat) => D.int (((1 + t) * (i : Int) + f) % p)) = ((List.range many).map fun (i : Nat) => ((1 + t) * (i : Int) + f) % p).map D.int := by rw [List.map_map]; rfl
    rw [e]
    refine r _ (by simp) ?_ fun x hx => ?_
    · refine List.pairwise_map.mpr (List.Pairwise.imp_of_mem ?_ List.pairwise_lt_range)
      intro i j hi hj hij z
      have hj' : j < many := by simpa using hj
      obtain ⟨t', rfl⟩ := Int.eq_ofNat_of_zero_le t0
      obtain ⟨f', rfl⟩ := Int.eq_ofNat_of_zero_le f0
      obtain ⟨p', rfl⟩ := Int.eq_ofNat_of_zero_le (show 0 ≤ p by omega)
      have hp' : p' = 409 ∨ p' = 999999937 := by omega
      refine key_ne (p := p') (t := 1 + t') (f := f') hp' (by omega) (by omega) hij (by omega) ?_
      have z' : ((((1 + t') * i + f') % p' : Nat) : Int) = (((1 + t') * j + f') % p' : Nat) := by
        simp only [Int.natCast_emod, Int.natCast_add, Int.natCast_mul]
        exact z
      exact Int.ofNat.inj z'
    · obtain ⟨i, hi, rfl⟩ := List.mem_map.mp hx
      have := Int.emod_nonneg ((1 + t) * (i : Int) + f) (b := p) (by omega)
      have := Int.emod_lt_of_pos ((1 + t) * (i : Int) + f) (b := p) (by omega)
      omega
  · have hi' : i < many := by simpa using hi
    refine ⟨_, fun X' hb' => pgd_name hb' 5 (by simp) rfl, fun X' hb' => ?_⟩
    exact pp_op <| pp_ty hb' (id := "int") <| pl1 <| pp_op <| pp_op <| pp_nm hb' rfl <| pp_nm hb' rfl <| o_mul (.inl ⟨by omega, by omega⟩) <| pp_nm hb' rfl <| o_add <| i_int <| pp_nm hb' rfl <| o_mod (by omega) rfl
theorem f_keys (tx : Tx W) : Df W 3 "_law_keys" (spB W.K IH 1 S_keys) := d__law_keys (fun f fd F m bn => Df.mkB tx.calm F m c__law_keys rfl bn fun X hb ho ds R hl h => b_keys (k := 0) tx hb ho ds R hl h) tx.F__law_keys
end T

/-! K84m: worths, labels, items. -/
namespace T
open PySem PySem.Spec L2 RZ Dn
variable {W : Wd} {X : Cx} {k : Nat}
def Wo (w : Option Int) : Prop := ∀ i, w = some i → i.natAbs < 2 ^ 40
def S_worths : Sg := fun ds R => ∃ many : Nat, ds = [.int many] ∧ many ≤ 1000 ∧ ∀ ws : List (Option Int), ws.length = many → (∀ w ∈ ws, Wo w) → R (O.ls (ws.map oI))
theorem b_worths (tx : Tx W) (hb : Bc W X ⟨k + 2, n__law_worths, defScope s__law_worths, fun _ => true⟩) (ho : Own X) (ds : List D) (R : O → Prop) (_ : ds.length = 1) (h : S_worths ds R) :
    WSs X (defBody s__law_worths) (begin0 n__law_worths 2 (.bor IH :: ds.map Slot.v)) { nx := fun _ => R (.val .non), rt := R } := by
  have g1 := tx.g_int
  have g2 := tx.g_range
  obtain ⟨many, rfl, hz, r⟩ := h
  have d1 : 1 ≤ k + 2 := by omega
  have d2 : 2 ≤ k + 2 := by omega
  refine wss_cons <| ws_set hb 2 <| PP.po <| pp_callB hb tx.calm 0 (f_pick tx) rfl (pl1 <| PO.pp <| po_lst <| pl_cons <| pp_int <| pl_cons <| pp_int <| pl_cons <| pp_int <| pl_cons <| pp_int <| pl_cons <| pp_int <| pl_nil ⟨szN (by decide), rfl, _, rfl, by decide, by decide, fun d hd => ?_⟩) d2
  obtain ⟨p, rfl, p0, p1⟩ := int_mem (l := [1, 2, 3, 7, 50]) (fun w => 1 ≤ w ∧ w ≤ 50) hd (by decide)
  refine wss_cons <| ws_par3 hb 3 4 5 <| plo_cons <| PP.po <| pp_callB hb tx.calm 0 (f_draw tx) rfl (pl1 <| pp_nm hb rfl ⟨rfl, p, rfl, by omega, by omega, fun t t0 t1 => plo_cons <| PP.po <| pp_callB hb tx.calm 0 (f_draw tx) rfl (pl1 <| pp_nm hb rfl ⟨rfl, p, rfl, by omega, by omega, fun f f0 f1 => plo_cons <| PP.po <| pp_op <| pp_int <| pp_callB hb tx.calm 0 (f_draw tx) rfl (pl1 <| pp_nm hb rfl ⟨rfl, p, rfl, by omega, by omega, fun s s0 s1 => o_add <| plo_nil ⟨_, _, _, rfl, ?_⟩⟩) d1⟩) d1⟩) d1
  refine wss_cons <| ws_par hb 6 7 <| plo_cons <| PP.po <| pp_callB hb tx.calm 0 (f_pick tx) rfl (pl1 <| PO.pp <| po_lst <| pl_cons <| pp_int <| pl_cons <| pp_int <| pl_cons <| pp_int <| pl_cons <| pp_int <| pl_nil ⟨szN (by decide), rfl, _, rfl, by decide, by decide, fun d hd => ?_⟩) d2
  obtain ⟨w, rfl, w0, w1⟩ := int_mem (l := [1, 2, 7, 400]) (fun w => 1 ≤ w ∧ w ≤ 400) hd (by decide)
  refine plo_cons <| PP.po <| pp_callB hb tx.calm 0 (f_pick tx) rfl (pl1 <| PO.pp <| po_lst <| pl_cons <| pp_int <| pl_cons <| pp_int <| pl_cons <| pp_int <| pl_cons <| pp_int <| pl_nil ⟨szN (by decide), rfl, _, rfl, by decide, by decide, fun d hd => ?_⟩) d2
  obtain ⟨st, rfl, st0, st1⟩ := int_mem (l := [1, 1, 3, 2000000]) (fun w => 1 ≤ w ∧ w ≤ 2000000) hd (by decide)
  have q0 : 0 ≤ w * st := Int.mul_nonneg (by omega) (by omega)
  have q1 : w * st ≤ 400 * 2000000 := Int.mul_le_mul w1 st1 (by omega) (by decide)
  refine plo_nil ⟨_, _, rfl, ?_⟩
  refine wss_cons <| ws_par hb 8 9 <| plo_cons <| PP.po <| pp_callB hb tx.calm 0 (f_draw tx) rfl (pl1 <| pp_nm hb rfl ⟨rfl, w, rfl, by omega, by omega, fun b b0 b1 => plo_cons <| PP.po <| pp_callB hb tx.calm 0 (f_draw tx) rfl (pl1 <| pp_op <| pp_op <| pp_nm hb rfl <| pp_nm hb rfl <| o_mul (.inl ⟨by omega, by omega⟩) <| pp_int <| o_add ⟨rfl, _, rfl, by omega, by omega, fun l l0 l1 => plo_nil ⟨_, _, rfl, ?_⟩⟩) d1⟩) d1
  refine wss_cons <| ws_set hb 10 <| po_lst <| pl_nil ⟨szN (by simp), ?_⟩
  let Γ1 : List (Option Int) → List Dn.Slot := fun ws => [.bor IH, .v (.int many), .v (.int p), .v (.int t), .v (.int f), .v (.int (1 + s)), .v (.int w), .v (.int st), .v (.int b), .v (.int l), .own (O.ls (ws.map oI)), .no, .no]
  refine wss_cut (fun Γ' => ∃ ws : List (Option Int), ws.length = many ∧ (∀ w ∈ ws, Wo w) ∧ Γ' = Γ1 ws) (ws_for hb ho <| pit_rng1 hb <| pl1 <| pp_nm hb rfl ⟨many, rfl, by omega, by omega, fun i Γ' => ∃ ws : List (Option Int), ws.length = i ∧ (∀ w ∈ ws, Wo w) ∧ Γ' = Γ1 ws, ⟨[], rfl, by simp, rfl⟩, fun Γ' h => ?_, fun i d Γ' hd h => ?_⟩) fun Γ' h => ?_
  · rw [rngD_len] at h
    simpa using h
  · obtain ⟨ws, v1, v2, rfl⟩ := h
    obtain ⟨hi, rfl⟩ := rngD_get hd
    have hi' : i < many := by simpa using hi
    refine pgd_name hb 11 trivial ?_
    refine wss_cons <| ws_set hb 12 <| PP.po <| pp_cmp <| PP.pr <| pp_op <| pp_ty hb (id := "int") <| pl1 <| pp_op <| pp_op <| pp_nm hb rfl <| pp_nm hb rfl <| o_mul (.inl ⟨by omega, by omega⟩) <| pp_nm hb rfl <| o_add <| i_int <| pp_nm hb rfl <| o_mod (by omega) <| rd_nm hb rfl <| c_lt ?_
    refine wss_cons <| ws_appV hb 10 rfl (PP.imp (P := fun d => ∃ w, Wo w ∧ d = oI w) (pp_if <| pb_val <| pp_nm hb rfl ⟨_, rfl, iD (fun e => ?_) fun e => pp_non ⟨none, (fun i z => nomatch z), rfl⟩⟩) fun d hd => ?_)
    · refine pp_op <| pp_op <| pp_op <| pp_ty hb (id := "int") <| pl1 <| pp_op <| pp_op <| pp_nm hb rfl <| pp_int <| o_mul (.inl ⟨by omega, by omega⟩) <| pp_nm hb rfl <| o_add <| i_int <| pp_nm hb rfl <| o_mod (by omega) <| pp_nm hb rfl <| o_mul (.inl ?_) <| pp_nm hb rfl <| o_sub ⟨some _, fun x ex => ?_, rfl⟩
      · have := Int.emod_nonneg ((0 + (i : Int)) * 3 + b) (b := w) (by omega)
        have := Int.emod_lt_of_pos ((0 + (i : Int)) * 3 + b) (b := w) (by omega)
        omega
      · cases ex
        have a0 := Int.emod_nonneg ((0 + (i : Int)) * 3 + b) (b := w) (by omega)
        have a1 := Int.emod_lt_of_pos ((0 + (i : Int)) * 3 + b) (b := w) (by omega)
        generalize ((0 + (i : Int)) * 3 + b) % w = y at a0 a1
        have b0 : 0 ≤ y * st := Int.mul_nonneg a0 (by omega)
        have b1 : y * st ≤ 400 * 2000000 := Int.mul_le_mul (by omega) (by omega) (by omega) (by decide)
        omega
    · obtain ⟨w', hw, rfl⟩ := hd
      refine ⟨szN' (by simp; omega), wss_end [11, 12] ⟨ws ++ [w'], by simp [v1], fun x hx => ?_, ?_⟩⟩
      · rcases List.mem_append.mp hx with z | z
        · exact v2 x z
        · have : x = w' := by simpa using z
          rw [this]
          exact hw
      · have e : ws.map oI ++ [oI w'] = (ws ++ [w']).map oI := by simp
        exact congrArg (fun z : List D => ([.bor IH, .v (.int many), .v (.int p), .v (.int t), .v (.int f), .v (.int (1 + s)), .v (.int w), .v (.int st), .v (.int b), .v (.int l), .own (O.ls z), .no, .no] : List Dn.Slot)) e
  · obtain ⟨ws, v1, v2, rfl⟩ := h
    exact wss_cons <| ws_retO hb 10 rfl (r ws v1 v2)
theorem f_worths (tx : Tx W) : Df W 3 "_law_worths" (spB W.K IH 1 S_worths) := d__law_worths (fun f fd F m bn => Df.mkB tx.calm F m c__law_worths rfl bn fun X hb ho ds R hl h => b_worths (k := 0) tx hb ho ds R hl h) tx.F__law_worths
end T

/-! K84n: labels, items, the law's state. -/
namespace T
open PySem PySem.Spec L2 RZ Dn
variable {W : Wd} {X : Cx} {k : Nat}
/-- a comprehension with a test whose items are of a kind each -/
theorem lp_anyF {W : Wd} {bx : Bx} {Γ : List Dn.Slot} {β : Type} {scope : Scope} {tg elt tst : Expr} {vs : List Nat} {P : D → Prop} (enc : β → D) (good : β → Prop) {ds : List D} (hz : ds.length ≤ sizeLine) (h : ∀ bs : List β, bs.length ≤ ds.length → (∀ b ∈ bs, good b) → P (.lst (bs.map enc)))
    (hx : ∀ d ∈ ds, ∃ Γ2, (∀ X', Bc W X' (bx.blk scope) → PGd X' tg d (wipeG Γ vs) (· ∈ vs) fun z => z = Γ2) ∧ ∃ T : Bool → Prop, (∀ X', Bc W X' (bx.blk scope) → PB X' tst Γ2 T) ∧ (T true → ∀ X', Bc W X' (bx.blk scope) → PP X' elt Γ2 fun o => ∃ b, good b ∧ o = enc b)) : LpOk W bx scope tg [tst] elt Γ vs P ds := by
  refine ⟨hz, fun i acc => ∃ bs : List β, bs.length ≤ i ∧ (∀ b ∈ bs, good b) ∧ acc = bs.map fun b => O.val (enc b), ⟨[], Nat.le_refl _, by simp, rfl⟩, fun acc e => ?_, fun i d acc hd e hl => ?_⟩
  · obtain ⟨bs, h1, h2, rfl⟩ := e
    have := h bs h1 h2
    have e2 : (O.ls (bs.map enc)).toD = .lst (bs.map enc) := toD_ls _
    rw [← e2] at this
    simpa [O.ls, List.map_map, Function.comp_def] using this
  · obtain ⟨Γ2, h1, T, h2, h3⟩ := hx d (List.mem_of_getElem? hd)
    obtain ⟨bs, g1, g2, rfl⟩ := e
    refine ⟨Γ2, h1, T, fun X' hb => pts_1 (h2 X' hb), fun z => ⟨bs, by omega, g2, rfl⟩, fun z X' hb => ((h3 z X' hb).imp fun o eo => ?_).po⟩
    obtain ⟨b, gb, rfl⟩ := eo
    refine ⟨bs ++ [b], by simp; omega, fun c hc => ?_, by simp⟩
    rcases List.mem_append.mp hc with z | z
    · exact g2 c z
    · have : c = b := by simpa using z
      rw [this]
      exact gb
/-! ### labels -/
def GL (names : List Str) (l : Lb) : Prop := l.length ≤ names.length ∧ ∀ p ∈ l, p.1 ∈ names ∧ p.2.natAbs < 2 ^ 40
def S_labels : Sg := fun ds R => ∃ (many : Nat) (names : List Str), ds = [.int many, .lst (names.map .str)] ∧ many ≤ 1000 ∧ names.length ≤ 1000 ∧ ∀ ls : List Lb, ls.length = many → (∀ l ∈ ls, GL names l) → R (O.ls (ls.map dLb))
theorem zip_mem {xs ys : List D} {d : D} (h : d ∈ zipD xs ys) : ∃ x ∈ xs, ∃ y ∈ ys, d = .tup [x, y] := by
  obtain ⟨i, hi⟩ := List.getElem?_of_mem h
  obtain ⟨x, y, h1, h2, rfl⟩ := zipD_get hi
  exact ⟨x, List.mem_of_getElem? h1, y, List.mem_of_getElem? h2, rfl⟩
theorem b_labels (tx : Tx W) (hb : Bc W X ⟨k + 3, n__law_labels, defScope s__law_labels, fun _ => true⟩) (ho : Own X) (ds : List D) (R : O → Prop) (_ : ds.length = 2) (h : S_labels ds R) :
    WSs X (defBody s__law_labels) (begin0 n__law_labels 3 (.bor IH :: ds.map Slot.v)) { nx := fun _ => R (.val .non), rt := R } := by
  have g1 := tx.g_tuple
  have g2 := tx.g_range
  have g3 := tx.g_zip
  obtain ⟨many, names, rfl, hz, hn, r⟩ := h
  refine wss_cons <| ws_setC hb 3 <| po_lc hb tx.calm [("name", 4)] <| pit_lst <| pp_nm hb rfl ⟨_, rfl, ?_⟩
  refine lc_any (fun ws : List (Option Int) => .lst (ws.map oI)) (fun ws => ws.length = many ∧ ∀ w ∈ ws, Wo w) (szN (by simpa using hn)) (fun rows hl hg => ?_) fun d hd => ?_
  case refine_2 =>
    obtain ⟨x, hx, rfl⟩ := List.mem_map.mp hd
    refine ⟨_, fun X' hb' => pgd_name hb' 4 (by simp) rfl, fun X' hb' => ?_⟩
    exact pp_callB hb' tx.calm 0 (f_worths tx) rfl (pl1 <| pp_nm hb' rfl ⟨rfl, many, rfl, hz, fun ws h1 h2 => ⟨ws, ⟨h1, h2⟩, toD_ls _⟩⟩) (by show 3 ≤ k + 3; omega)
  have hl' : rows.length = names.length := by simpa using hl
  refine wss_frz 3 rfl ?_
  rw [toD_ls]
  refine wss_cons <| ws_ret <| po_lc hb tx.calm [("at", 6)] <| pit_rng1 hb <| pl1 <| pp_nm hb rfl ⟨many, rfl, by omega, by omega, ?_⟩
  refine lc_any dLb (GL names) (by rw [rngD_len]; exact szN (by omega)) (fun ls h1 h2 => r ls (by rw [h1, rngD_len]; simp) h2) fun d hd => ?_
  obtain ⟨i, hi, rfl⟩ := rng_mem hd
  have hi' : i < many := by simpa using hi
  refine ⟨_, fun X' hb' => pgd_name hb' 6 (by simp) rfl, fun X' hb' => ?_⟩
  refine pp_ty hb' (id := "tuple") <| pl1 <| pp_lc hb' tx.calm [("name", 4), ("row", 5)] <| pit_zip hb' <| pl2 <| pp_nm hb' rfl <| pp_nm hb' rfl ⟨_, _, .inl rfl, ?_⟩
  have hzl : (zipD (names.map D.str) (rows.map fun ws : List (Option Int) => D.lst (ws.map oI))).length = names.length := by simp [zipD]; omega
  refine lp_anyF (fun p : Str × Int => .tup [.str p.1, .int p.2]) (fun p => p.1 ∈ names ∧ p.2.natAbs < 2 ^ 40) (by rw [hzl]; exact szN hn) (fun bs h1 h2 => l_tuple ⟨bs, ⟨by rw [hzl] at h1; exact h1, h2⟩, rfl⟩) fun d hd => ?_
  obtain ⟨x, hx, y, hy, rfl⟩ := zip_mem hd
  obtain ⟨nm, hnm, rfl⟩ := List.mem_map.mp hx
  obtain ⟨ws, hws, rfl⟩ := List.mem_map.mp hy
  obtain ⟨e1, e2⟩ := hg ws hws
  have hi2 : i < ws.length := by omega
  have hat : atI (ws.map oI) (i : Int) = some (oI ws[i]) := Dn.atI_nat (by rw [List.getElem?_map, List.getElem?_eq_getElem hi2]; rfl)
  refine ⟨_, fun X2 hb2 => pgd_tup hb2 (pgs_cons (pgd_name hb2 4 (by simp) (pgs_cons (pgd_name hb2 5 (by simp) (pgs_nil rfl))))), fun kk => kk = (ws[i]).isSome, fun X2 hb2 => ?_, fun ht X2 hb2 => ?_⟩
  · refine pb_cmp <| PP.pr <| pp_ix <| pp_nm hb2 rfl <| pp_nm hb2 rfl <| ix_lst hat <| rd_non <| c_notN ?_
    cases ws[i] <;> rfl
  · refine pp_tup <| pl2 <| pp_nm hb2 rfl <| pp_ix <| pp_nm hb2 rfl <| pp_nm hb2 rfl <| ix_lst hat ⟨szN (by simp), ?_⟩
    cases q : ws[i] with
    | none => rw [q] at ht; cases ht
    | some w => exact ⟨(nm, w), ⟨hnm, e2 _ (List.getElem_mem hi2) w q⟩, rfl⟩
theorem f_labels (tx : Tx W) : Df W 4 "_law_labels" (spB W.K IH 2 S_labels) := d__law_labels (fun f fd F m bn => Df.mkB tx.calm F m c__law_labels rfl bn fun X hb ho ds R hl h => b_labels (k := 0) tx hb ho ds R hl h) tx.F__law_labels
/-! ### items -/
structure GI (names : List Str) (places : Nat) (it : Item) : Prop where
  key : 0 ≤ it.1 ∧ it.1 < 999999937
  len : it.2.1.length = places
  near : Near it.2.1
  lbs : GL names it.2.2
def S_items : Sg := fun ds R => ∃ (many places : Nat) (names : List Str), ds = [.int many, .int places, .lst (names.map .str)] ∧ 0 < many ∧ many ≤ 400 ∧ places ≤ 1000 ∧ names.length ≤ 1000 ∧ ∀ its : List Item, its.length = many → Keyed its → (∀ it ∈ its, GI names places it) → R (O.ls (its.map dIt))
theorem b_items (tx : Tx W) (hb : Bc W X ⟨k + 4, n__law_items, defScope s__law_items, fun _ => true⟩) (ho : Own X) (ds : List D) (R : O → Prop) (_ : ds.length = 3) (h : S_items ds R) :
    WSs X (defBody s__law_items) (begin0 n__law_items 4 (.bor IH :: ds.map Slot.v)) { nx := fun _ => R (.val .non), rt := R } := by
  have g1 := tx.g_enumerate
  obtain ⟨many, places, names, rfl, h0, hz, hp, hn, r⟩ := h
  refine wss_cons <| ws_asgT hb <| pp_tup <| pl2 <| pp_callB hb tx.calm 0 (f_vectors tx) rfl (pl2 <| pp_nm hb rfl <| pp_nm hb rfl ⟨rfl, many, places, rfl, h0, by omega, hp, fun vs v1 v2 => ?_⟩) (by show 4 ≤ k + 4; omega)
  refine pp_callB hb tx.calm 0 (f_labels tx) rfl (pl2 <| pp_nm hb rfl <| pp_nm hb rfl ⟨rfl, many, names, rfl, by omega, hn, fun ls l1 l2 => ?_⟩) (by show 4 ≤ k + 4; omega)
  simp only [toD_ls]
  refine ⟨szN (by simp), pgd_tup hb <| pgs_cons <| pgd_name hb 4 trivial <| pgs_cons <| pgd_name hb 5 trivial <| pgs_nil ?_⟩
  refine wss_cons <| ws_ret <| po_lc hb tx.calm [("at", 6), ("key", 7)] <| pit_enL hb <| pl1 <| pp_callB hb tx.calm 0 (f_keys tx) rfl (pl1 <| pp_nm hb rfl ⟨rfl, many, rfl, hz, fun ks k1 k2 k3 => ⟨ks.map .int, congrArg (fun d => [d]) (toD_ls _), ?_⟩⟩) (by show 3 ≤ k + 4; omega)
  let its : List Item := ks.zip (vs.zip ls)
  have hlen : its.length = many := by simp [its]; omega
  have hget : ∀ i (hi : i < many), its[i]? = some (ks[i]'(by omega), vs[i]'(by omega), ls[i]'(by omega)) := fun i hi => by
    rw [List.getElem?_eq_getElem (by omega)]
    simp [its]
  refine lc_map (fun d => match d with | .tup [.int i, .int key] => .tup [.int key, (vs.map dV).getD i.toNat .non, (ls.map dLb).getD i.toNat .non] | d => d) (by rw [enD_len]; exact szN (by simp; omega)) ?_ fun d hd => ?_
  · have e : ((enD (ks.map D.int)).map fun d => match d with | .tup [.int i, .int key] => .tup [.int key, (vs.map dV).getD i.toNat .non, (ls.map dLb).getD i.toNat .non] | d => d) = its.map dIt := by
      refine List.ext_getElem? fun i => ?_
      rw [List.getElem?_map, List.getElem?_map]
      by_cases hi : i < many
      · rw [hget i hi]
        have hk : i < (enD (ks.map D.int)).length := by rw [enD_len]; simp; omega
        rw [List.getElem?_eq_getElem hk]
        obtain ⟨d, h1, h2⟩ := enD_get (List.getElem?_eq_getElem hk)
        rw [List.getElem?_map, List.getElem?_eq_getElem (show i < ks.length by omega)] at h1
        cases h1
        rw [h2]
        have e1 : (vs.map dV).getD i .non = dV (vs[i]'(by omega)) := by
          rw [List.getD_eq_getElem?_getD, List.getElem?_map, List.getElem?_eq_getElem (show i < vs.length by omega)]
          rfl
        have e2 : (ls.map dLb).getD i .non = dLb (ls[i]'(by omega)) := by
          rw [List.getD_eq_getElem?_getD, List.getElem?_map, List.getElem?_eq_getElem (show i < ls.length by omega)]
          rfl
        show some (D.tup [.int ks[i], (vs.map dV).getD i .non, (ls.map dLb).getD i .non]) = _
        rw [e1, e2]
        rfl
      · rw [List.getElem?_eq_none (by rw [enD_len]; simp; omega), List.getElem?_eq_none (by omega)]
        rfl
    rw [e]
    refine r its hlen ?_ fun it hit => ?_
    · have e : its.map (·.1) = ks := by
        simp only [its]
        rw [List.map_fst_zip]
        simp
        omega
      unfold Keyed
      rw [e]
      exact k2
    · obtain ⟨i, hi⟩ := List.getElem?_of_mem hit
      have him : i < many := by
        have := (List.getElem?_eq_some_iff.mp hi).1
        omega
      rw [hget i him] at hi
      cases hi
      obtain ⟨a1, a2⟩ := v2 _ (List.getElem_mem (show i < vs.length by omega))
      exact ⟨k3 _ (List.getElem_mem _), a1, a2, l2 _ (List.getElem_mem _)⟩
  · obtain ⟨i, hi⟩ := List.getElem?_of_mem hd
    obtain ⟨d, h1, rfl⟩ := enD_get hi
    rw [List.getElem?_map] at h1
    cases q : ks[i]? with
    | none => rw [q] at h1; cases h1
    | some key =>
      rw [q] at h1
      cases h1
      have him : i < many := by
        have := (List.getElem?_eq_some_iff.mp q).1
        omega
      have e1 : atI (vs.map dV) (i : Int) = some ((vs.map dV).getD i .non) := Dn.atI_nat (by rw [List.getD_eq_getElem?_getD, List.getElem?_map, List.getElem?_eq_getElem (show i < vs.length by omega)]; rfl)
      have e2 : atI (ls.map dLb) (i : Int) = some ((ls.map dLb).getD i .non) := Dn.atI_nat (by rw [List.getD_eq_getElem?_getD, List.getElem?_map, List.getElem?_eq_getElem (show i < ls.length by omega)]; rfl)
      refine ⟨_, fun X' hb' => pgd_tup hb' (pgs_cons (pgd_name hb' 6 (by simp) (pgs_cons (pgd_name hb' 7 (by simp) (pgs_nil rfl))))), fun X' hb' => ?_⟩
      exact pp_tup <| pl3 <| pp_nm hb' rfl <| pp_ix <| pp_nm hb' rfl <| pp_nm hb' rfl <| ix_lst e1 <| pp_ix <| pp_nm hb' rfl <| pp_nm hb' rfl <| ix_lst e2 ⟨szN (by simp), rfl⟩
theorem f_items (tx : Tx W) : Df W 5 "_law_items" (spB W.K IH 3 S_items) := d__law_items (fun f fd F m bn => Df.mkB tx.calm F m c__law_items rfl bn fun X hb ho ds R hl h => b_items (k := 0) tx hb ho ds R hl h) tx.F__law_items
end T

/-! K84o: the law's state, sieves, what passes them, pairs. -/
namespace T
open PySem PySem.Spec L2 RZ Dn
variable {W : Wd} {X : Cx} {k : Nat}
/-! ### the law's state -/
def addS (st : List Item) (it : Item) : List Item := if (st.any fun x => decide (x.1 = it.1)) = true then st.map fun x => if x.1 = it.1 then it else x else st ++ [it]
def stL (its : List Item) : List Item := its.foldl addS []
theorem put_addS (st : List Item) (it : Item) : dPut (enS st) (.inl it.1) (dIt it) = enS (addS st it) := by
  unfold dPut addS
  have e : ((enS st).any fun kv => decide (kv.1 = (.inl it.1 : Key))) = st.any fun x => decide (x.1 = it.1) := by
    rw [List.any_map]
    congr 1
    funext x
    simp
  rw [e]
  split
  · simp only [enS, List.map_map]
    refine List.map_congr_left fun x _ => ?_
    by_cases q : x.1 = it.1
    · simp [q]
    · simp [q]
  · simp [enS]
theorem addS_new {st : List Item} {it : Item} (h : ∀ x ∈ st, x.1 ≠ it.1) : addS st it = st ++ [it] := by
  unfold addS
  rw [if_neg]
  intro z
  obtain ⟨x, hx, e⟩ := List.any_eq_true.mp z
  exact h x hx (of_decide_eq_true e)
theorem stL_keyed {its : List Item} (h : Keyed its) : stL its = its := by
  have : ∀ n, (its.take n).foldl addS [] = its.take n := by
    intro n
    induction n with
    | zero => rfl
    | succ n ih =>
      cases q : its[n]? with
      | none =>
        have : its.length ≤ n := List.getElem?_eq_none_iff.mp q
        rw [List.take_of_length_le (by omega)] at ih ⊢
        exact ih
      | some it =>
        have tk : its.take (n + 1) = its.take n ++ [it] := by rw [List.take_succ, q]; rfl
        rw [tk, List.foldl_append, ih]
        exact addS_new (h.before q)
  have := this its.length
  rwa [List.take_length] at this
theorem addS_len (st : List Item) (it : Item) : (addS st it).length ≤ st.length + 1 := by
  unfold addS
  split <;> simp
theorem stL_len (its : List Item) : (stL its).length ≤ its.length := by
  have : ∀ (its : List Item) (st : List Item), (its.foldl addS st).length ≤ st.length + its.length := by
    intro its
    induction its with
    | nil => intro st; simp
    | cons it its ih =>
      intro st
      have := ih (addS st it)
      have := addS_len st it
      simp only [List.foldl_cons, List.length_cons]
      omega
  simpa [stL] using this its []
def S_stateL : Sg := fun ds R => ∃ its : List Item, ds = [.lst (its.map dIt)] ∧ its.length ≤ 50000 ∧ R (O.dc (enS (stL its)))
theorem b_stateL (tx : Tx W) (hb : Bc W X ⟨k, n__law_state, defScope s__law_state, fun _ => true⟩) (ho : Own X) (ds : List D) (R : O → Prop) (_ : ds.length = 1) (h : S_stateL ds R) :
    WSs X (defBody s__law_state) (begin0 n__law_state 1 (ds.map Slot.v)) { nx := fun _ => R (.val .non), rt := R } := by
  obtain ⟨its, rfl, hz, r⟩ := h
  have hl := line6
  refine wss_cons <| ws_set hb 1 <| po_dnew ?_
  refine wss_cut (fun Γ' => Γ' = [.v (.lst (its.map dIt)), .own (O.dc (enS (stL its))), .no]) (ws_for hb ho <| pit_lst <| pp_nm hb rfl ⟨_, rfl, fun i Γ' => Γ' = [.v (.lst (its.map dIt)), .own (O.dc (enS (stL (its.take i)))), .no], rfl, fun Γ' h => ?_, fun i d Γ' hd h => ?_⟩) fun Γ' h => ?_
  · rw [List.length_map, List.take_length] at h
    exact h
  · subst h
    rw [List.getElem?_map] at hd
    cases q : its[i]? with
    | none => rw [q] at hd; cases hd
    | some it =>
      rw [q] at hd
      cases hd
      have hi : i < its.length := (List.getElem?_eq_some_iff.mp q).1
      refine pgd_name hb 2 trivial ?_
      have := stL_len (its.take i)
      rw [List.length_take] at this
      refine wss_cons <| ws_dput hb 1 rfl <| pp_nm hb rfl <| pp_nt hb rfl atI0 ⟨.inl it.1, rfl, by simp; omega, ?_⟩
      refine wss_end [2] ?_
      have tk : its.take (i + 1) = its.take i ++ [it] := by rw [List.take_succ, q]; rfl
      have e : stL (its.take (i + 1)) = addS (stL (its.take i)) it := by
        rw [tk]
        unfold stL
        rw [List.foldl_append]
        rfl
      exact congrArg (fun z => ([.v (.lst (its.map dIt)), .own (O.dc z), .no] : List Dn.Slot)) ((put_addS _ it).trans (congrArg enS e.symm))
  · subst h
    exact wss_cons <| ws_retO hb 1 rfl r
theorem f_stateL (tx : Tx W) : Df W 1 "_law_state" (spP W.K 1 S_stateL) := d__law_state (fun f fd F m bn => Df.mkP tx.calm F m c__law_state rfl bn fun X hb ho ds R hl h => b_stateL (k := 0) tx hb ho ds R hl h) tx.F__law_state
/-! ### sieves drawn -/
def S_sieve (n : Nat) : Sg := fun ds R => ∃ (names : List Str) (d : Nat), ds = [.lst (names.map .str), .int d] ∧ d ≤ n ∧ names.length ≤ 100 ∧ ∀ s : Sv, s.dep ≤ d → R (.val (dSv s))
theorem b_sieve (n : Nat) (tx : Tx W) (rec : ∀ m, m < n → Df W (m + 3) "_law_sieve" (spB W.K IH 2 (S_sieve m))) (hb : Bc W X ⟨n + 2, n__law_sieve, defScope s__law_sieve, fun _ => true⟩) (ho : Own X) (ds : List D) (R : O → Prop) (_ : ds.length = 2) (h : S_sieve n ds R) :
    WSs X (defBody s__law_sieve) (begin0 n__law_sieve 3 (.bor IH :: ds.map Slot.v)) { nx := fun _ => R (.val .non), rt := R } := by
  obtain ⟨names, dp, rfl, hdp, hn, r⟩ := h
  have d1 : 1 ≤ n + 2 := by omega
  have d2 : 2 ≤ n + 2 := by omega
  refine wss_cons <| ws_par3 hb 3 4 5 <| plo_cons <| PP.po <| pp_callB hb tx.calm 0 (f_draw tx) rfl (pl1 <| pp_int ⟨rfl, _, rfl, by decide, by decide, fun kd k0 k1 => plo_cons <| PP.po <| pp_callB hb tx.calm 0 (f_pick tx) rfl (pl1 <| pp_op <| pp_nm hb rfl <| PO.pp <| po_lst <| pl_cons <| pp_str <| pl_nil ⟨szN (by decide), o_catL (szN (by show (names.map D.str).length + 1 ≤ 1000; simp; omega)) ⟨rfl, names.map D.str ++ [D.str "no"], rfl, by simp, by simp; omega, fun d hd => ?_⟩⟩) d2⟩) d1
  obtain ⟨nm, rfl⟩ : ∃ nm, d = .str nm := by
    rcases List.mem_append.mp hd with z | z
    · obtain ⟨x, _, rfl⟩ := List.mem_map.mp z
      exact ⟨x, rfl⟩
    · have : d = .str "no" := by simpa using z
      exact ⟨_, this⟩
  refine plo_cons <| PP.po <| pp_op <| pp_callB hb tx.calm 0 (f_draw tx) rfl (pl1 <| pp_int ⟨rfl, _, rfl, by decide, by decide, fun lo l0 l1 => pp_int <| o_sub <| plo_nil ⟨_, _, _, rfl, ?_⟩⟩) d1
  refine wss_cut (fun Γ' => Γ' = [.bor IH, .v (.lst (names.map .str)), .v (.int dp), .v (.int kd), .v (.str nm), .v (.int (lo - 4))] ∧ 3 ≤ kd ∧ (kd ≤ 4 ∨ 1 ≤ dp)) (ws_if <| pb_c <| pc_o <| pb_cmp <| rd_nm hb rfl <| rd_int <| c_lt <| iD (fun e => iTT ?_) fun e => ?_) fun Γ' h => ?_
  · exact wss_cons <| ws_retP <| pp_tup <| pl1 <| pp_str ⟨szN (by simp), r .all (Nat.zero_le _)⟩
  · refine pc_o1 <| pb_c <| pc_a <| pb_cmp <| rd_nm hb rfl <| rd_int <| c_eqI <| iD (fun e2 => pc_a1 <| pb_cmp <| rd_nm hb rfl <| rd_int <| c_gt <| iD (fun e3 => ?_) fun e3 => wss_nil ⟨rfl, by omega, by omega⟩) fun e2 => iFF <| wss_nil ⟨rfl, by omega, by omega⟩
    exact wss_cons <| ws_retP <| pp_tup <| pl1 <| pp_str ⟨szN (by simp), r .all (Nat.zero_le _)⟩
  obtain ⟨rfl, h3, h4⟩ := h
  refine wss_cons <| ws_if <| pb_eI <| pp_nm hb rfl ⟨_, rfl, pp_int ⟨_, rfl, iD (fun e => ?_) fun e => wss_nil ?_⟩⟩
  · exact wss_cons <| ws_retP <| pp_tup <| pl2 <| pp_str <| pp_nm hb rfl ⟨szN (by simp), r (.has nm) (Nat.zero_le _)⟩
  refine wss_cons <| ws_if <| pb_eI <| pp_nm hb rfl ⟨_, rfl, pp_int ⟨_, rfl, iD (fun e => ?_) fun e => wss_nil ?_⟩⟩
  · refine wss_cons <| ws_retP <| pp_tup <| pl4 <| pp_str <| pp_nm hb rfl <| pp_nm hb rfl <| pp_op <| pp_nm hb rfl <| pp_callB hb tx.calm 0 (f_pick tx) rfl (pl1 <| PO.pp <| po_lst <| pl_cons <| pp_int <| pl_cons <| pp_int <| pl_cons <| pp_int <| pl_cons <| pp_int <| pl_cons <| pp_op <| pp_int <| pp_int <| o_pow ⟨by decide, by decide, by decide⟩ <| pl_nil ⟨szN (by decide), rfl, _, rfl, by decide, by decide, fun d hd => ?_⟩) d2
    obtain ⟨w, rfl, _⟩ := int_mem (l := [0, 2, 5, 400, 10 ^ (8 : Int).toNat]) (fun _ => True) hd (fun _ _ => trivial)
    exact o_add ⟨szN (by simp), r (.inn nm (lo - 4) (lo - 4 + w)) (Nat.zero_le _)⟩
  have h5 : 1 ≤ dp := by omega
  have c1 : ((dp : Int) - 1) = ((dp - 1 : Nat) : Int) := by omega
  refine wss_cons <| ws_if <| pb_eI <| pp_nm hb rfl ⟨_, rfl, pp_int ⟨_, rfl, iD (fun e => ?_) fun e => wss_nil ?_⟩⟩
  · refine wss_cons <| ws_retP <| pp_tup <| pl2 <| pp_str <| pp_callB hb tx.calm 0 (rec (dp - 1) (by omega)) rfl (pl2 <| pp_nm hb rfl <| pp_op <| pp_nm hb rfl <| pp_int <| o_sub ⟨rfl, names, dp - 1, by rw [c1], Nat.le_refl _, hn, fun s hs => ⟨szN (by simp), r (.not s) ?_⟩⟩) (by show dp - 1 + 3 ≤ n + 2; omega)
    show s.dep + 1 ≤ dp
    omega
  refine wss_cons <| ws_retP <| pp_tup <| pl3 <| pp_callB hb tx.calm 0 (f_pick tx) rfl (pl1 <| PO.pp <| po_lst <| pl_cons <| pp_str <| pl_cons <| pp_str <| pl_nil ⟨szN (by decide), rfl, _, rfl, by decide, by decide, fun d hd => ?_⟩) d2
  refine pp_callB hb tx.calm 0 (rec (dp - 1) (by omega)) rfl (pl2 <| pp_nm hb rfl <| pp_op <| pp_nm hb rfl <| pp_int <| o_sub ⟨rfl, names, dp - 1, by rw [c1], Nat.le_refl _, hn, fun s hs => ?_⟩) (by show dp - 1 + 3 ≤ n + 2; omega)
  refine pp_callB hb tx.calm 0 (rec (dp - 1) (by omega)) rfl (pl2 <| pp_nm hb rfl <| pp_op <| pp_nm hb rfl <| pp_int <| o_sub ⟨rfl, names, dp - 1, by rw [c1], Nat.le_refl _, hn, fun s2 hs2 => ⟨szN (by simp), ?_⟩⟩) (by show dp - 1 + 3 ≤ n + 2; omega)
  have hd' : d = .str "and" ∨ d = .str "or" := by
    rcases List.mem_cons.mp hd with z | z
    · exact .inl z
    · rcases List.mem_cons.mp z with z | z
      · exact .inr z
      · cases z
  rcases hd' with rfl | rfl
  · refine r (.and s s2) ?_
    show max s.dep s2.dep + 1 ≤ dp
    omega
  · refine r (.or s s2) ?_
    show max s.dep s2.dep + 1 ≤ dp
    omega
theorem f_sieve (tx : Tx W) : ∀ n, Df W (n + 3) "_law_sieve" (spB W.K IH 2 (S_sieve n)) := by
  intro n
  induction n using Nat.strongRecOn with
  | ind n ih => exact d__law_sieve (fun f fd F m bn => Df.mkB tx.calm F m c__law_sieve rfl bn fun X hb ho ds R hl h => b_sieve n tx ih hb ho ds R hl h) tx.F__law_sieve
end T

/-! K84p: what passes a sieve by the law, its pairs, vectors drawn, sameness. -/
namespace T
open PySem PySem.Spec L2 RZ Dn
variable {W : Wd} {X : Cx} {k : Nat}
def S_passesL (n : Nat) : Sg := fun ds R => ∃ (s : Sv) (it : Item), ds = [dSv s, dIt it] ∧ s.dep ≤ n ∧ it.2.2.length ≤ 1000 ∧ R (.val (.bl (lets s it.2.2)))
theorem svL (hb : Bc W X ⟨k, n__law_passes, defScope s__law_passes, fun _ => true⟩) {x y : Str} {xs : List D} {l : D} {p p2 p3 p4 : Pos} {j j2} {T : Bool → Prop} (t : T (decide (x = y))) :
    PB X (.Compare (.Subscript (.Name "sieve" p) (.Constant (.int 0) j p2) p3) [.Eq] [.Constant (.str y) j2 p4] pos) (begin0 n__law_passes 2 ([.tup (.str x :: xs), l].map Slot.v)) T :=
  pb_cmp (PP.pr (pp_ix (pp_nm hb rfl (pp_int (ix_tp atI0 (rd_str (c_eqS t)))))))
theorem look_head (l : Lb) (n : Str) : look l n = ((l.filter fun p => decide (p.1 = n)).map (·.2)).head? := by
  unfold look
  rw [List.head?_map, List.head?_filter]
theorem svAO (hb : Bc W X ⟨k, n__law_passes, defScope s__law_passes, fun _ => true⟩) {x : Str} {b : Bool} {xs : List D} {l : D} {T : Bool → Prop} {p1 p2 p3 p4 p5 p6 pos : Pos} {j j1 j2 kk} (hx : PyData.strOk x = true) (hv : ([D.str "and", D.str "or"].any fun z => PyData.eqv z.py (D.str x).py) = b) (t : T b) :
    PB X (.Compare (.Subscript (.Name "sieve" p1) (.Constant (.int 0) j p2) p3) [.In] [.Tuple [.Constant (.str "and") j1 p4, .Constant (.str "or") j2 p5] kk p6] pos) (begin0 n__law_passes 2 ([.tup (.str x :: xs), l].map Slot.v)) T := by
  refine pb_cmp (PP.pr (pp_ix (pp_nm hb rfl (pp_int (ix_tp atI0 <| PP.pr <| pp_tup <| pl2 <| pp_str <| pp_str ⟨szN (by simp), c_inT hb (n := 0) (m := 1) hx ?_ ?_⟩)))))
  · intro d hd
    rcases List.mem_cons.mp hd with rfl | hd
    · show PyData.strOk "and" = true
      decide +kernel
    · rcases List.mem_cons.mp hd with rfl | hd
      · show PyData.strOk "or" = true
        decide +kernel
      · cases hd
  · rw [← hv] at t
    exact t
theorem b_passesL (n : Nat) (tx : Tx W) (rec : ∀ m, m < n → Df W (m + 1) "_law_passes" (spP W.K 2 (S_passesL m))) (hb : Bc W X ⟨n, n__law_passes, defScope s__law_passes, fun _ => true⟩) (ho : Own X) (ds : List D) (R : O → Prop) (_ : ds.length = 2) (h : S_passesL n ds R) :
    WSs X (defBody s__law_passes) (begin0 n__law_passes 2 (ds.map Slot.v)) { nx := fun _ => R (.val .non), rt := R } := by
  have gAll := tx.g_all
  have gAny := tx.g_any
  obtain ⟨s, it, rfl, hd, hz, r⟩ := h
  cases s with
  | all =>
    refine wss_cons (ws_if (svL hb (iY rfl ?_)))
    exact wss_cons (ws_retP (pp_bl r))
  | not s =>
    refine wss_cons (ws_if (svL hb (iNo (by decide) (wss_nil ?_))))
    refine wss_cons (ws_if (svL hb (iY rfl ?_)))
    have hs : s.dep < n := hd
    exact wss_cons <| ws_retP <| pp_not <| pp_call hb tx.calm (rec s.dep hs) (pl2 <| pp_nt hb rfl atI1 <| pp_nm hb rfl ⟨rfl, s, it, rfl, Nat.le_refl _, hz, _, rfl, r⟩) (by show s.dep + 1 ≤ n; omega)
  | and a b =>
    refine wss_cons (ws_if (svL hb (iNo (by decide) (wss_nil ?_))))
    refine wss_cons (ws_if (svL hb (iNo (by decide) (wss_nil ?_))))
    have hs : max a.dep b.dep < n := hd
    refine wss_cons <| ws_if <| svAO hb (b := true) (by decide +kernel) (by decide +kernel) <| iTT ?_
    refine wss_cons <| ws_all (ws_setLc hb tx.calm [("part", 3)] 2 (pit_any <| pit_tup <| pp_slT <| pp_nm hb rfl ⟨_, rfl, pp_int ⟨1, rfl, ⟨_, rfl, ?_⟩⟩⟩)) (fun _ _ _ => trivial)
    rw [cut1]
    refine lc_mapB (bs := [a, b]) dSv (fun s => .bl (lets s it.2.2)) (szN (by simp)) ?_ fun s hs2 => ?_
    · refine wss_frz 2 rfl ?_
      rw [toD_ls]
      exact wss_cons <| ws_retP <| pp_if <| pb_eS <| pp_nt hb rfl atI0 ⟨_, rfl, iY rfl <| pp_cl hb (id := "all") <| pl1 <| pp_nm hb rfl <| l_all hb (ns := [lets a it.2.2, lets b it.2.2]) (by simpa [lets] using r)⟩
    · have hsd : s.dep < n := by
        have : s = a ∨ s = b := by simpa using hs2
        rcases this with rfl | rfl <;> omega
      refine ⟨_, fun X' hb' => pgd_name hb' 3 (by simp) rfl, fun X' hb' => ?_⟩
      exact pp_call hb' tx.calm (rec s.dep hsd) (pl2 <| pp_nm hb' rfl <| pp_nm hb' rfl ⟨rfl, s, it, rfl, Nat.le_refl _, hz, rfl⟩) (by show s.dep + 1 ≤ n; omega)
  | or a b =>
    refine wss_cons (ws_if (svL hb (iNo (by decide) (wss_nil ?_))))
    refine wss_cons (ws_if (svL hb (iNo (by decide) (wss_nil ?_))))
    have hs : max a.dep b.dep < n := hd
    refine wss_cons <| ws_if <| svAO hb (b := true) (by decide +kernel) (by decide +kernel) <| iTT ?_
    refine wss_cons <| ws_all (ws_setLc hb tx.calm [("part", 3)] 2 (pit_any <| pit_tup <| pp_slT <| pp_nm hb rfl ⟨_, rfl, pp_int ⟨1, rfl, ⟨_, rfl, ?_⟩⟩⟩)) (fun _ _ _ => trivial)
    rw [cut1]
    refine lc_mapB (bs := [a, b]) dSv (fun s => .bl (lets s it.2.2)) (szN (by simp)) ?_ fun s hs2 => ?_
    · refine wss_frz 2 rfl ?_
      rw [toD_ls]
      exact wss_cons <| ws_retP <| pp_if <| pb_eS <| pp_nt hb rfl atI0 ⟨_, rfl, iNo (by decide) <| pp_cl hb (id := "any") <| pl1 <| pp_nm hb rfl <| l_any hb (ns := [lets a it.2.2, lets b it.2.2]) (by simpa [lets] using r)⟩
    · have hsd : s.dep < n := by
        have : s = a ∨ s = b := by simpa using hs2
        rcases this with rfl | rfl <;> omega
      refine ⟨_, fun X' hb' => pgd_name hb' 3 (by simp) rfl, fun X' hb' => ?_⟩
      exact pp_call hb' tx.calm (rec s.dep hsd) (pl2 <| pp_nm hb' rfl <| pp_nm hb' rfl ⟨rfl, s, it, rfl, Nat.le_refl _, hz, rfl⟩) (by show s.dep + 1 ≤ n; omega)
  | has m =>
    refine wss_cons (ws_if (svL hb (iNo (by decide) (wss_nil ?_))))
    refine wss_cons (ws_if (svL hb (iNo (by decide) (wss_nil ?_))))
    refine wss_cons <| ws_if <| svAO hb (b := false) (by decide +kernel) (by decide +kernel) <| iFF <| wss_nil ?_
    refine wss_cons <| ws_all (ws_setLc hb tx.calm [("label", 5)] 4 (pit_any <| pit_tup <| pp_nt hb rfl atI2 ⟨_, rfl, ?_⟩)) (fun _ _ _ => trivial)
    refine lc_filterB (fun p : Str × Int => .tup [.str p.1, .int p.2]) (fun p => decide (p.1 = m)) (fun p => .int p.2) (szN hz) ?_ fun p hp => ⟨_, fun X' hb' => pgd_name hb' 5 (by simp) rfl, fun X' hb' => ?_, fun _ X' hb' => pp_nt hb' rfl atI1 rfl⟩
    · refine wss_frz 4 rfl ?_
      rw [toD_ls]
      have hr : R (.val (.bl (look it.2.2 m).isSome)) := r
      rw [look_head] at hr
      have e : ((it.2.2.filter fun p => decide (p.1 = m)).map fun p => D.int p.2) = ((it.2.2.filter fun p => decide (p.1 = m)).map (·.2)).map D.int := by rw [List.map_map]; rfl
      rw [e]
      generalize (it.2.2.filter fun p => decide (p.1 = m)).map (·.2) = zs at hr
      cases zs with
      | nil => exact wss_cons <| ws_retP <| pp_and <| pp_cmp <| rd_nm hb rfl <| PO.pr <| po_lst <| pl_nil ⟨Nat.zero_le _, c_nev hb (sh_ints []) (m := 1) (fun _ z => nomatch z) ⟨_, rfl, iFF hr⟩⟩
      | cons z zs =>
        refine wss_cons <| ws_retP <| pp_and <| pp_cmp <| rd_nm hb rfl <| PO.pr <| po_lst <| pl_nil ⟨Nat.zero_le _, c_nev hb (sh_ints (z :: zs)) (m := 1) (fun _ z => nomatch z) ⟨true, rfl, iTT ?_⟩⟩
        exact pp_one <| pp_or <| pp_cmp <| PP.pr <| pp_nt hb rfl atI0 <| rd_str <| c_eqS ⟨_, rfl, iY rfl hr⟩
    · exact pb_cmp <| PP.pr <| pp_nt hb' rfl atI0 <| PP.pr <| pp_nt hb' rfl atI1 <| c_eqS rfl
  | inn m lo hi =>
    refine wss_cons (ws_if (svL hb (iNo (by decide) (wss_nil ?_))))
    refine wss_cons (ws_if (svL hb (iNo (by decide) (wss_nil ?_))))
    refine wss_cons <| ws_if <| svAO hb (b := false) (by decide +kernel) (by decide +kernel) <| iFF <| wss_nil ?_
    refine wss_cons <| ws_all (ws_setLc hb tx.calm [("label", 5)] 4 (pit_any <| pit_tup <| pp_nt hb rfl atI2 ⟨_, rfl, ?_⟩)) (fun _ _ _ => trivial)
    refine lc_filterB (fun p : Str × Int => .tup [.str p.1, .int p.2]) (fun p => decide (p.1 = m)) (fun p => .int p.2) (szN hz) ?_ fun p hp => ⟨_, fun X' hb' => pgd_name hb' 5 (by simp) rfl, fun X' hb' => ?_, fun _ X' hb' => pp_nt hb' rfl atI1 rfl⟩
    · refine wss_frz 4 rfl ?_
      rw [toD_ls]
      have hr : R (.val (.bl (match look it.2.2 m with | some v => decide (lo ≤ v) && decide (v ≤ hi) | none => false))) := r
      rw [look_head] at hr
      have e : ((it.2.2.filter fun p => decide (p.1 = m)).map fun p => D.int p.2) = ((it.2.2.filter fun p => decide (p.1 = m)).map (·.2)).map D.int := by rw [List.map_map]; rfl
      rw [e]
      generalize (it.2.2.filter fun p => decide (p.1 = m)).map (·.2) = zs at hr
      cases zs with
      | nil => exact wss_cons <| ws_retP <| pp_and <| pp_cmp <| rd_nm hb rfl <| PO.pr <| po_lst <| pl_nil ⟨Nat.zero_le _, c_nev hb (sh_ints []) (m := 1) (fun _ z => nomatch z) ⟨_, rfl, iFF hr⟩⟩
      | cons z zs =>
        have hr' : R (.val (.bl (decide (lo ≤ z) && decide (z ≤ hi)))) := hr
        refine wss_cons <| ws_retP <| pp_and <| pp_cmp <| rd_nm hb rfl <| PO.pr <| po_lst <| pl_nil ⟨Nat.zero_le _, c_nev hb (sh_ints (z :: zs)) (m := 1) (fun _ z => nomatch z) ⟨true, rfl, iTT ?_⟩⟩
        refine pp_one <| pp_or <| pp_cmp <| PP.pr <| pp_nt hb rfl atI0 <| rd_str <| c_eqS ⟨_, rfl, iNo (by decide) ?_⟩
        refine pp_one <| pp_chain <| pp_nt hb rfl atI2 <| pp_nl hb rfl atI0 <| c_le <| iD (fun e => ?_) fun e => ?_
        · refine pp_nt hb rfl atI3 <| c_le ?_
          simpa [e] using hr'
        · simpa [e] using hr'
    · exact pb_cmp <| PP.pr <| pp_nt hb' rfl atI0 <| PP.pr <| pp_nt hb' rfl atI1 <| c_eqS rfl
theorem f_passesL (tx : Tx W) : ∀ n, Df W (n + 1) "_law_passes" (spP W.K 2 (S_passesL n)) := by
  intro n
  induction n using Nat.strongRecOn with
  | ind n ih => exact d__law_passes (fun f fd F m bn => Df.mkP tx.calm F m c__law_passes rfl bn fun X hb ho ds R hl h => b_passesL n tx ih hb ho ds R hl h) tx.F__law_passes
/-! ### pairs -/
def pairL (kd : Str) (v : List Int) (it : Item) : Int × Int := (dist kd v it.2.1, it.1)
def prsL (kd : Str) (v : List Int) (s : Sv) (its : List Item) : List (Int × Int) := ((its.filter fun it => lets s it.2.2).map (pairL kd v)).mergeSort lePr
def GV (v : List Int) (its : List Item) : Prop := Near v ∧ 0 < v.length ∧ v.length ≤ 1000 ∧ ∀ it ∈ its, Near it.2.1 ∧ it.2.1.length = v.length ∧ it.2.2.length ≤ 1000
def S_pairsL : Sg := fun ds R => ∃ (kd : Str) (v : List Int) (s : Sv) (its : List Item), ds = [.str kd, dV v, dSv s, .lst (its.map dIt)] ∧ KD kd ∧ s.dep ≤ 4 ∧ its.length ≤ 1000 ∧ GV v its ∧ R (.val (.lst ((prsL kd v s its).map dPr)))
theorem b_pairsL (tx : Tx W) (hb : Bc W X ⟨k + 5, n__law_pairs, defScope s__law_pairs, fun _ => true⟩) (ho : Own X) (ds : List D) (R : O → Prop) (_ : ds.length = 4) (h : S_pairsL ds R) :
    WSs X (defBody s__law_pairs) (begin0 n__law_pairs 4 (ds.map Slot.v)) { nx := fun _ => R (.val .non), rt := R } := by
  have g1 := tx.g_sorted
  obtain ⟨kd, v, s, its, rfl, hk, hs, hz, ⟨nv, v0, v1, hi⟩, r⟩ := h
  refine wss_cons <| ws_retP <| pp_cl hb (id := "sorted") <| pl1 <| pp_lc hb tx.calm [("item", 4)] <| pit_lst <| pp_nm hb rfl ⟨_, rfl, ?_⟩
  refine lp_filterB dIt (fun it => lets s it.2.2) (fun it => dPr (pairL kd v it)) (szN hz) ?_ fun it hit => ⟨_, fun X' hb' => pgd_name hb' 4 (by simp) rfl, fun X' hb' => ?_, fun _ X' hb' => ?_⟩
  · have e : ((its.filter fun it => lets s it.2.2).map fun it => dPr (pairL kd v it)) = ((its.filter fun it => lets s it.2.2).map (pairL kd v)).map dPr := by rw [List.map_map]; rfl
    rw [e]
    exact l_sortP hb r
  · exact pb_val <| pp_call hb' tx.calm (f_passesL tx 4) (pl2 <| pp_nm hb' rfl <| pp_nm hb' rfl ⟨rfl, s, it, rfl, hs, (hi it hit).2.2, _, rfl, rfl⟩) (by show 5 ≤ k + 5; omega)
  · exact pp_tup <| pl2 <| pp_call hb' tx.calm (f_distL tx) (pl3 <| pp_nm hb' rfl <| pp_nm hb' rfl <| pp_nt hb' rfl atI1 ⟨rfl, kd, v, it.2.1, rfl, hk, nv, (hi it hit).1, (hi it hit).2.1.symm, v0, v1, pp_nt hb' rfl atI0 ⟨szN (by simp), rfl⟩⟩) (by show 2 ≤ k + 5; omega)
theorem f_pairsL (tx : Tx W) : Df W 6 "_law_pairs" (spP W.K 4 S_pairsL) := d__law_pairs (fun f fd F m bn => Df.mkP tx.calm F m c__law_pairs rfl bn fun X hb ho ds R hl h => b_pairsL (k := 0) tx hb ho ds R hl h) tx.F__law_pairs
end T

/-! K84q: vectors drawn, sameness; first_of_all, last_deeds, deeds_between. -/
namespace T
open PySem PySem.Spec L2 RZ Dn
variable {W : Wd} {X : Cx} {k : Nat}
def S_vectorL : Sg := fun ds R => ∃ (its : List Item) (places : Nat), ds = [.lst (its.map dIt), .int places] ∧ 0 < its.length ∧ its.length ≤ 1000 ∧ places ≤ 1000 ∧ (∀ it ∈ its, it.2.1.length = places ∧ Near it.2.1) ∧ ∀ v : List Int, v.length = places → Near v → R (.val (dV v))
theorem b_vectorL (tx : Tx W) (hb : Bc W X ⟨k + 2, n__law_vector, defScope s__law_vector, fun _ => true⟩) (ho : Own X) (ds : List D) (R : O → Prop) (_ : ds.length = 2) (h : S_vectorL ds R) :
    WSs X (defBody s__law_vector) (begin0 n__law_vector 3 (.bor IH :: ds.map Slot.v)) { nx := fun _ => R (.val .non), rt := R } := by
  have g1 := tx.g_tuple
  have g2 := tx.g_range
  have g3 := tx.g_max
  have g4 := tx.g_min
  obtain ⟨its, places, rfl, h0, hz, hp, hi, r⟩ := h
  have d1 : 1 ≤ k + 2 := by omega
  have d2 : 2 ≤ k + 2 := by omega
  refine wss_cons <| ws_par hb 3 4 <| plo_cons <| PP.po <| pp_ti <| pp_callB hb tx.calm 0 (f_pick tx) rfl (pl1 <| pp_nm hb rfl ⟨rfl, _, rfl, by simpa using h0, by simp; omega, fun d hd => ?_⟩) d2
  obtain ⟨it, hit, rfl⟩ := List.mem_map.mp hd
  obtain ⟨e1, e2⟩ := hi it hit
  refine ⟨_, _, rfl, atI1, plo_cons <| PP.po <| pp_callB hb tx.calm 0 (f_draw tx) rfl (pl1 <| pp_int ⟨rfl, _, rfl, by decide, by decide, fun kd k0 k1 => plo_nil ⟨_, _, rfl, ?_⟩⟩) d1⟩
  refine wss_cons <| ws_if <| pb_eI <| pp_nm hb rfl ⟨_, rfl, pp_int ⟨_, rfl, iD (fun e => ?_) fun e => wss_nil ?_⟩⟩
  · refine wss_cons <| ws_retP <| pp_ty hb (id := "tuple") <| pl1 <| pp_lc hb tx.calm [("place", 5)] <| pit_rng1 hb <| pl1 <| pp_nm hb rfl ⟨places, rfl, by omega, by omega, ?_⟩
    refine lp_any D.int (fun x => x.natAbs < 2 ^ 40) (by rw [rngD_len]; exact szN (by omega)) (fun xs h1 h2 => l_tuple (r xs (by rw [h1, rngD_len]; simp) h2)) fun d hd => ?_
    obtain ⟨i, hi, rfl⟩ := rng_mem hd
    refine ⟨_, fun X' hb' => pgd_name hb' 5 (by simp) rfl, fun X' hb' => ?_⟩
    exact pp_op <| pp_callB hb' tx.calm 0 (f_draw tx) rfl (pl1 <| pp_int ⟨rfl, _, rfl, by decide, by decide, fun x x0 x1 => pp_int <| o_sub ⟨_, by omega, rfl⟩⟩) (by show 1 ≤ k + 2; omega)
  refine wss_cons <| ws_if <| pb_eI <| pp_nm hb rfl ⟨_, rfl, pp_int ⟨_, rfl, iD (fun e => ?_) fun e => wss_nil ?_⟩⟩
  · exact wss_cons <| ws_retP <| pp_nm hb rfl (r _ e1 e2)
  refine wss_cons <| ws_retP <| pp_ty hb (id := "tuple") <| pl1 <| pp_lc hb tx.calm [("part", 6)] <| pit_tup <| pp_nm hb rfl ⟨_, rfl, ?_⟩
  refine lp_any D.int (fun x => x.natAbs < 2 ^ 40) (by rw [List.length_map, e1]; exact szN (by omega)) (fun xs h1 h2 => l_tuple (r xs (by rw [h1, List.length_map, e1]) h2)) fun d hd => ?_
  obtain ⟨x, hx, rfl⟩ := List.mem_map.mp hd
  refine ⟨_, fun X' hb' => pgd_name hb' 6 (by simp) rfl, fun X' hb' => ?_⟩
  refine pp_cl hb' (id := "max") <| pl2 <| pp_cl hb' (id := "min") <| pl2 <| pp_op <| pp_op <| pp_nm hb' rfl <| pp_callB hb' tx.calm 0 (f_draw tx) rfl (pl1 <| pp_int ⟨rfl, _, rfl, by decide, by decide, fun y y0 y1 => o_add <| pp_int <| o_sub <| pp_int <| i_min2 hb' <| pp_op <| pp_int <| pp_int <| o_sub <| i_max2 hb' ⟨_, ?_, rfl⟩⟩) (by show 1 ≤ k + 2; omega)
  generalize x + y - 3 = z
  split <;> split <;> omega
theorem f_vectorL (tx : Tx W) : Df W 3 "_law_vector" (spB W.K IH 2 S_vectorL) := d__law_vector (fun f fd F m bn => Df.mkB tx.calm F m c__law_vector rfl bn fun X hb ho ds R hl h => b_vectorL (k := 0) tx hb ho ds R hl h) tx.F__law_vector
/-! ### the same thing twice -/
def SaT (d : D) : Prop := ∃ n, n ≤ 60 ∧ Sh n d ∧ NoB n d ∧ d.py.showable = true ∧ d.py.shown.length ≤ sizeLine
def Sa (d : D) : Prop := d = .non ∨ (∃ i : Int, d = .int i ∧ i.natAbs.log2 < 1920) ∨ ∃ xs, d = .tup xs ∧ SaT d
def S_same : Sg := fun ds R => ∃ d, ds = [d, d] ∧ Sa d ∧ R (.val (.bl true))
theorem b_same (tx : Tx W) (hb : Bc W X ⟨k, n__law_same, defScope s__law_same, fun _ => true⟩) (ho : Own X) (ds : List D) (R : O → Prop) (_ : ds.length = 2) (h : S_same ds R) :
    WSs X (defBody s__law_same) (begin0 n__law_same 2 (ds.map Slot.v)) { nx := fun _ => R (.val .non), rt := R } := by
  have g1 := tx.g_repr
  obtain ⟨d, rfl, hd, r⟩ := h
  rcases hd with rfl | ⟨i, rfl, hi⟩ | ⟨xs, rfl, n, hn, h1, h2, h3, h4⟩
  · exact wss_cons <| ws_retP <| pp_and <| pp_cmp <| rd_nm hb rfl <| rd_nm hb rfl <| c_eqv hb (n := 0) (m := 0) trivial trivial ⟨true, rfl, iTT <| pp_one <| pp_cmp <| PP.pr <| pp_cl hb (id := "repr") <| pl1 <| pp_nm hb rfl <| n_repr <| PP.pr <| pp_cl hb (id := "repr") <| pl1 <| pp_nm hb rfl <| n_repr <| c_eqS (by rw [decide_eq_true rfl]; exact r)⟩
  · refine wss_cons <| ws_retP <| pp_and <| pp_cmp <| rd_nm hb rfl <| rd_nm hb rfl <| c_eqI ⟨true, by rw [decide_eq_true rfl], iTT <| pp_one <| pp_cmp <| PP.pr <| pp_cl hb (id := "repr") <| pl1 <| pp_nm hb rfl <| i_repr hi <| PP.pr <| pp_cl hb (id := "repr") <| pl1 <| pp_nm hb rfl <| i_repr hi <| c_eqS (by rw [decide_eq_true rfl]; exact r)⟩
  · have e : PyData.eqv (D.tup xs).py (D.tup xs).py = true := (eqv_iff n _ _ h2 h2).mpr rfl
    refine wss_cons <| ws_retP <| pp_and <| pp_cmp <| rd_nm hb rfl <| rd_nm hb rfl <| c_eqv hb (n := n) (m := n) h1 h1 ⟨true, by show D.bl (PyData.eqv (D.tup xs).py (D.tup xs).py) = D.bl true; rw [e], iTT <| pp_one <| pp_cmp <| PP.pr <| pp_cl hb (id := "repr") <| pl1 <| pp_nm hb rfl <| t_repr hb h1 h3 h4 (PP.pr <| pp_cl hb (id := "repr") <| pl1 <| pp_nm hb rfl <| t_repr hb h1 h3 h4 (c_eqS (by rw [decide_eq_true rfl]; exact r)) (by omega)) (by omega)⟩ (by omega) (by omega)
theorem f_same (tx : Tx W) : Df W 1 "_law_same" (spP W.K 2 S_same) := d__law_same (fun f fd F m bn => Df.mkP tx.calm F m c__law_same rfl bn fun X hb ho ds R hl h => b_same (k := 0) tx hb ho ds R hl h) tx.F__law_same
end T

/-! K84r: first_of_all, last_deeds, deeds_between. -/
namespace T
open PySem PySem.Spec L2 RZ Dn
variable {W : Wd} {X : Cx} {k : Nat}
def rowT (d : D) : List D := match d with | .tup es => es | _ => []
def S_first : Sg := fun ds R => ∃ (as : List (List (Int × Int))) (many : Nat), ds = [.tup (as.map fun ps => .tup (ps.map dPr)), .int many] ∧ as.flatten.length ≤ 1000000 ∧ R (.val (.tup (((as.flatten.mergeSort lePr).take many).map dPr)))
theorem line7 : (1000000 : Nat) < sizeLine := by rw [sizeLine_eq]; decide
theorem row_flat : ∀ as : List (List (Int × Int)), (as.map fun ps => D.tup (ps.map dPr)).flatMap rowT = as.flatten.map dPr
  | [] => rfl
  | p :: as => by
    simp only [List.map_cons, List.flatMap_cons, List.flatten_cons, List.map_append]
    rw [row_flat as]
    rfl
theorem b_first (tx : Tx W) (hb : Bc W X ⟨k, n_first_of_all, defScope s_first_of_all, fun _ => true⟩) (ho : Own X) (ds : List D) (R : O → Prop) (_ : ds.length = 2) (h : S_first ds R) :
    WSs X (defBody s_first_of_all) (begin0 n_first_of_all 2 (ds.map Slot.v)) { nx := fun _ => R (.val .non), rt := R } := by
  have g1 := tx.g_tuple
  have g2 := tx.g_sorted
  obtain ⟨as, many, rfl, hz, r⟩ := h
  have hl := line7
  have ef := row_flat as
  refine wss_cons <| ws_retP <| pp_slT <| pp_ty hb (id := "tuple") <| pl1 <| pp_cl hb (id := "sorted") <| pl1 <| PO.pp <| po_lc2 hb tx.calm [("answer", 2), ("pair", 3)] [3] 2 3 <| pit_tup <| pp_nm hb rfl ⟨_, rfl, rowT, fun d => d, ?_, ?_, fun d hd => ⟨fun X' hb' tg1 => ?_, fun e he X' hb' => pp_nm hb' rfl rfl⟩⟩
  · rw [ef, List.length_map]
    omega
  · rw [ef, List.map_id']
    simp only [toD_ls]
    refine l_sortP hb <| l_tuple ⟨_, rfl, pp_nm hb rfl ⟨many, rfl, ?_⟩⟩
    show R (.val (.tup (cutD _ none (some (many : Int)))))
    rw [cutTo, ← List.map_take]
    exact r
  · obtain ⟨ps, hps, rfl⟩ := List.mem_map.mp hd
    exact pit_tup <| pp_nm hb' rfl ⟨_, rfl, rfl⟩
theorem f_first (tx : Tx W) : Df W 1 "first_of_all" (spP W.K 2 S_first) := d_first_of_all (fun f fd F m bn => Df.mkP tx.calm F m c_first_of_all rfl bn fun X hb ho ds R hl h => b_first (k := 0) tx hb ho ds R hl h) tx.F_first_of_all
/-! ### dicts with ints as keys -/
def IK (kvs : List (Key × D)) : Prop := ∀ kv ∈ kvs, ∃ i : Int, kv.1 = .inl i
def ksD (kvs : List (Key × D)) : List Int := kvs.map fun kv => match kv.1 with | .inl i => i | .inr _ => 0
theorem IK.keys {kvs : List (Key × D)} (h : IK kvs) : kvs.map (·.1) = (ksD kvs).map Sum.inl := by
  unfold ksD
  rw [List.map_map]
  refine List.map_congr_left fun kv hkv => ?_
  obtain ⟨i, e⟩ := h kv hkv
  simp [e]
theorem IK.mem {kvs : List (Key × D)} (h : IK kvs) {i : Int} : i ∈ ksD kvs ↔ (dGet kvs (.inl i)).isSome = true := by
  unfold ksD dGet
  rw [Option.isSome_map, List.find?_isSome, List.mem_map]
  constructor
  · rintro ⟨kv, hkv, e⟩
    obtain ⟨j, ej⟩ := h kv hkv
    rw [ej] at e
    exact ⟨kv, hkv, by rw [ej]; simpa using e⟩
  · rintro ⟨kv, hkv, e⟩
    exact ⟨kv, hkv, by rw [of_decide_eq_true e]⟩
theorem IK.put {kvs : List (Key × D)} (h : IK kvs) (i : Int) (d : D) : IK (dPut kvs (.inl i) d) := by
  intro kv hkv
  unfold dPut at hkv
  split at hkv
  · obtain ⟨x, hx, rfl⟩ := List.mem_map.mp hkv
    obtain ⟨j, ej⟩ := h x hx
    by_cases q : x.1 = .inl i
    · exact ⟨j, by simp [q, ← ej]⟩
    · exact ⟨j, by rw [if_neg q]; exact ej⟩
  · rcases List.mem_append.mp hkv with z | z
    · exact h kv z
    · have : kv = (.inl i, d) := by simpa using z
      exact ⟨i, by rw [this]⟩
/-! ### the last deeds -/
def lastD (ds : List Deed) : List (Key × D) := ds.foldl (fun acc d => dPut acc (.inl d.key) (dDe d)) []
theorem lastD_snoc (ds : List Deed) (d : Deed) : lastD (ds ++ [d]) = dPut (lastD ds) (.inl d.key) (dDe d) := by
  unfold lastD
  rw [List.foldl_append]
  rfl
theorem lastD_ik : ∀ ds : List Deed, IK (lastD ds) := by
  have : ∀ (ds : List Deed) (acc : List (Key × D)), IK acc → IK (ds.foldl (fun acc d => dPut acc (.inl d.key) (dDe d)) acc) := by
    intro ds
    induction ds with
    | nil => exact fun _ h => h
    | cons d ds ih => exact fun acc h => ih _ (h.put _ _)
  exact fun ds => this ds [] (fun _ z => nomatch z)
/-- what stands at the keys in their order -/
def atKeys (kvs : List (Key × D)) : List D := ((ksD kvs).mergeSort leI).map fun i => (dGet kvs (.inl i)).getD .non
def S_last : Sg := fun xs R => ∃ ds : List Deed, xs = [.tup (ds.map dDe)] ∧ ds.length ≤ 100000 ∧ R (.val (.tup (atKeys (lastD ds))))
/-- tuple([d[key] for key in sorted(d)]) -/
theorem lp_atKeys {W : Wd} {bx : Bx} {Γ : List Dn.Slot} {scope : Scope} {tg elt : Expr} {vs : List Nat} {P : D → Prop} {kvs : List (Key × D)} (hk : IK kvs) (hz : kvs.length ≤ sizeLine) (h : P (.lst (atKeys kvs)))
    (hx : ∀ i d, dGet kvs (.inl i) = some d → ∃ Γ2, (∀ X', Bc W X' (bx.blk scope) → PGd X' tg (.int i) (wipeG Γ vs) (· ∈ vs) fun z => z = Γ2) ∧ ∀ X', Bc W X' (bx.blk scope) → PP X' elt Γ2 fun o => o = d) : LpOk W bx scope tg [] elt Γ vs P (((ksD kvs).mergeSort leI).map .int) := by
  refine lp_mapB D.int (fun i => (dGet kvs (.inl i)).getD .non) (by rw [List.length_mergeSort]; simpa [ksD] using hz) h fun i hi => ?_
  have hm : i ∈ ksD kvs := List.mem_mergeSort.mp hi
  obtain ⟨d, ed⟩ := Option.isSome_iff_exists.mp (hk.mem.mp hm)
  rw [ed]
  exact hx i d ed
theorem b_last (tx : Tx W) (hb : Bc W X ⟨k + 1, n_last_deeds, defScope s_last_deeds, fun _ => true⟩) (ho : Own X) (xs : List D) (R : O → Prop) (_ : xs.length = 1) (h : S_last xs R) :
    WSs X (defBody s_last_deeds) (begin0 n_last_deeds 1 (xs.map Slot.v)) { nx := fun _ => R (.val .non), rt := R } := by
  have g1 := tx.g_tuple
  have g2 := tx.g_sorted
  obtain ⟨ds, rfl, hz, r⟩ := h
  have hl := line6
  refine wss_cons <| ws_setC hb 1 <| po_dc hb tx.calm [("deed", 2)] <| pit_tup <| pp_nm hb rfl ⟨_, rfl, by simp; omega, fun i acc => acc = lastD (ds.take i), rfl, fun acc e => ?_, fun i d acc hd e hl => ?_⟩
  · rw [List.length_map, List.take_length] at e
    subst e
    have dl : (lastD ds).length ≤ ds.length := by
      have : ∀ (ds : List Deed) (acc : List (Key × D)), (ds.foldl (fun acc d => dPut acc (.inl d.key) (dDe d)) acc).length ≤ acc.length + ds.length := by
        intro ds
        induction ds with
        | nil => intro acc; simp
        | cons d ds ih =>
          intro acc
          have := ih (dPut acc (.inl d.key) (dDe d))
          have := dPut_len acc (.inl d.key) (dDe d)
          simp only [List.foldl_cons, List.length_cons]
          omega
      simpa [lastD] using this ds []
    refine wss_frz 1 rfl ?_
    rw [toD_dc]
    refine wss_cons <| ws_retP <| pp_ty hb (id := "tuple") <| pl1 <| pp_lc hb tx.calm [("key", 3)] <| pit_lst <| pp_cl hb (id := "sorted") <| pl1 <| pp_nm hb rfl <| d_sortK hb (lastD_ik ds).keys ⟨_, rfl, ?_⟩
    refine lp_atKeys (lastD_ik ds) (by omega) (l_tuple r) fun i d ed => ⟨_, fun X' hb' => pgd_name hb' 3 (by simp) rfl, fun X' hb' => ?_⟩
    exact pp_ix <| pp_nm hb' rfl <| pp_nm hb' rfl <| ix_dic (k := .inl i) hb' ed rfl
  · rw [List.getElem?_map] at hd
    cases q : ds[i]? with
    | none => rw [q] at hd; cases hd
    | some dd =>
      rw [q] at hd
      cases hd
      have tk : ds.take (i + 1) = ds.take i ++ [dd] := by rw [List.take_succ, q]; rfl
      have e' : acc = lastD (ds.take i) := e
      refine ⟨_, fun X' hb' => pgd_name hb' 2 (by simp) rfl, fun k => k = true, fun X' hb => pts_no rfl, fun z => (by cases z), fun _ => ⟨fun kk => kk = .inl dd.key, fun X' hb' => ?_, fun kk ek X' hb' => pp_nm hb' rfl ?_⟩⟩
      · exact pp_call hb' tx.calm (f_deed_key tx) (pl1 <| pp_nm hb' rfl ⟨rfl, dd, rfl, .inl dd.key, rfl, rfl⟩) (by show 1 ≤ k + 1; omega)
      · have ek' : kk = .inl dd.key := ek
        subst ek'
        show dPut acc (.inl dd.key) (dDe dd) = lastD (ds.take (i + 1))
        rw [e', tk, lastD_snoc]
theorem f_last (tx : Tx W) : Df W 2 "last_deeds" (spP W.K 1 S_last) := d_last_deeds (fun f fd F m bn => Df.mkP tx.calm F m c_last_deeds rfl bn fun X hb ho ds R hl h => b_last (k := 0) tx hb ho ds R hl h) tx.F_last_deeds
end T

/-! K84s: deeds_between. -/
namespace T
open PySem PySem.Spec L2 RZ Dn
variable {W : Wd} {X : Cx} {k : Nat}
theorem ik_ints {kvs : List (Key × D)} (h : IK kvs) : (kvs.map fun kv => kD kv.1) = (ksD kvs).map D.int := by
  unfold ksD
  rw [List.map_map]
  refine List.map_congr_left fun kv hkv => ?_
  obtain ⟨i, e⟩ := h kv hkv
  simp only [Function.comp_apply]
  rw [e]
  rfl
/-- what one key asks for between two states -/
def btw (one other : List (Key × D)) (i : Int) : List D :=
  match dGet one (.inl i), dGet other (.inl i) with
  | some _, none => [.tup [.str "take", .int i]]
  | none, some e => [.tup [.str "put", e]]
  | some d, some e => if PyData.eqv d.py e.py = true then [] else [.tup [.str "put", e]]
  | none, none => []
theorem btw_len (one other : List (Key × D)) (i : Int) : (btw one other i).length ≤ 1 := by
  unfold btw
  split <;> (try split) <;> simp
theorem flat_le {α : Type} {f : α → List D} (h : ∀ a, (f a).length ≤ 1) : ∀ l : List α, (l.flatMap f).length ≤ l.length
  | [] => by simp
  | a :: l => by
    have := h a
    have := flat_le h l
    simp only [List.flatMap_cons, List.length_append, List.length_cons]
    omega
def ShV (kvs : List (Key × D)) : Prop := ∀ kv ∈ kvs, Sh 10 kv.2
theorem ShV.get {kvs : List (Key × D)} (h : ShV kvs) {i : Key} {d : D} (e : dGet kvs i = some d) : Sh 10 d := by
  unfold dGet at e
  obtain ⟨kv, h1, rfl⟩ := Option.map_eq_some_iff.mp e
  exact h kv (List.mem_of_find?_eq_some h1)
def S_between : Sg := fun xs R => ∃ one other : List (Key × D), xs = [.dic one, .dic other] ∧ IK one ∧ IK other ∧ ShV one ∧ ShV other ∧ one.length ≤ 1500 ∧ other.length ≤ 1500 ∧
  ∀ ks : List Int, ks.Pairwise (· < ·) → (∀ i, i ∈ ks ↔ i ∈ ksD one ∨ i ∈ ksD other) → R (.val (.tup (ks.flatMap (btw one other))))
theorem ks_len (kvs : List (Key × D)) : (ksD kvs).length = kvs.length := by simp [ksD]
theorem nodup_sub : ∀ {ks ns : List Int}, ks.Nodup → (∀ i, i ∈ ks → i ∈ ns) → ks.length ≤ ns.length
  | [], _, _, _ => Nat.zero_le _
  | k :: ks, ns, h1, h2 => by
    obtain ⟨a1, a2⟩ := List.nodup_cons.mp h1
    have hk := h2 k List.mem_cons_self
    have := nodup_sub a2 (ns := ns.erase k) fun i hi => (List.mem_erase_of_ne (fun e : i = k => a1 (by rw [← e]; exact hi))).mpr (h2 i (List.mem_cons_of_mem _ hi))
    have l := List.length_erase_of_mem hk
    have : 0 < ns.length := List.length_pos_of_mem hk
    simp only [List.length_cons]
    omega
theorem sub_len {ks ns : List Int} (h1 : ks.Pairwise (· < ·)) (h2 : ∀ i, i ∈ ks → i ∈ ns) : ks.length ≤ ns.length := nodup_sub (h1.imp fun h => Int.ne_of_lt h) h2
theorem b_between (tx : Tx W) (hb : Bc W X ⟨k, n_deeds_between, defScope s_deeds_between, fun _ => true⟩) (ho : Own X) (xs : List D) (R : O → Prop) (_ : xs.length = 2) (h : S_between xs R) :
    WSs X (defBody s_deeds_between) (begin0 n_deeds_between 2 (xs.map Slot.v)) { nx := fun _ => R (.val .non), rt := R } := by
  have g1 := tx.g_tuple
  have g2 := tx.g_sorted
  have g3 := tx.g_set
  have g4 := tx.g_list
  obtain ⟨one, other, rfl, i1, i2, s1, s2, z1, z2, r⟩ := h
  have hl := line6
  refine wss_cons <| ws_set hb 2 <| po_lst <| pl_nil ⟨Nat.zero_le _, ?_⟩
  refine wss_cut (fun Γ' => ∃ ks : List Int, ks.Pairwise (· < ·) ∧ (∀ i, i ∈ ks ↔ i ∈ ksD one ∨ i ∈ ksD other) ∧ Γ' = [.v (.dic one), .v (.dic other), .own (O.ls (ks.flatMap (btw one other))), .no]) (ws_for hb ho <| pit_lst <| pp_sortSet hb <| pp_op <| pp_ty hb (id := "list") <| pl1 <| pp_nm hb rfl <| d_list hb <| pp_ty hb (id := "list") <| pl1 <| pp_nm hb rfl <| d_list hb <| o_catL (by simp; omega) ⟨ksD one ++ ksD other, by rw [ik_ints i1, ik_ints i2, List.map_append], by rw [List.length_append, ks_len, ks_len]; omega, fun ks h1 h2 => ⟨_, rfl, fun i Γ' => Γ' = [.v (.dic one), .v (.dic other), .own (O.ls ((ks.take i).flatMap (btw one other))), .no], rfl, fun Γ' h => ?_, fun i d Γ' hd h => ?_⟩⟩) fun Γ' h => ?_
  · rw [List.length_map, List.take_length] at h
    exact ⟨ks, h1, fun i => by rw [h2, List.mem_append], h⟩
  · subst h
    rw [List.getElem?_map] at hd
    cases q : ks[i]? with
    | none => rw [q] at hd; cases hd
    | some key =>
      rw [q] at hd
      cases hd
      have hkl := sub_len h1 fun j hj => (h2 j).mp hj
      rw [List.length_append, ks_len, ks_len] at hkl
      have hi : i < ks.length := (List.getElem?_eq_some_iff.mp q).1
      have tk : ks.take (i + 1) = ks.take i ++ [key] := by rw [List.take_succ, q]; rfl
      have fl := flat_le (btw_len one other) (ks.take i)
      rw [List.length_take] at fl
      have fz : ((ks.take i).flatMap (btw one other)).length < sizeLine := by omega
      have fin : ∀ l, btw one other key = l → ([.v (.dic one), .v (.dic other), .own (O.ls ((ks.take i).flatMap (btw one other) ++ l)), .no] : List Dn.Slot) = [.v (.dic one), .v (.dic other), .own (O.ls ((ks.take (i + 1)).flatMap (btw one other))), .no] := fun l e => by
        rw [tk, List.flatMap_append, List.flatMap_singleton, e]
      have km : (dGet one (.inl key)).isSome = true ∨ (dGet other (.inl key)).isSome = true := by
        have := (h2 key).mp (List.mem_of_getElem? q)
        rw [List.mem_append, i1.mem, i2.mem] at this
        exact this
      refine pgd_name hb 3 trivial ?_
      cases q2 : dGet other (.inl key) with
      | none =>
        obtain ⟨d1, q1⟩ := Option.isSome_iff_exists.mp (km.resolve_right (by rw [q2]; exact Bool.false_ne_true))
        refine wss_cons <| ws_if <| pb_cmp <| rd_nm hb rfl <| rd_nm hb rfl <| c_notInK (k := .inl key) hb ?_
        rw [q2]
        refine iTT ?_
        refine wss_cons <| ws_appV hb 2 rfl (pp_tup <| pl2 <| pp_str <| pp_nm hb rfl ⟨szN (by simp), fz, wss_nil <| wss_end [3] (fin [.tup [.str "take", .int key]] ?_)⟩)
        unfold btw
        rw [q1, q2]
      | some d2 =>
        refine wss_cons <| ws_if <| pb_cmp <| rd_nm hb rfl <| rd_nm hb rfl <| c_notInK (k := .inl key) hb ?_
        rw [q2]
        refine iFF ?_
        cases q1 : dGet one (.inl key) with
        | none =>
          refine wss_cons <| ws_if <| pb_c <| pc_o <| pb_cmp <| rd_nm hb rfl <| rd_nm hb rfl <| c_notInK (k := .inl key) hb ?_
          rw [q1]
          refine iTT (iTT ?_)
          refine wss_cons <| ws_appV hb 2 rfl (pp_tup <| pl2 <| pp_str <| pp_ix <| pp_nm hb rfl <| pp_nm hb rfl <| ix_dic (k := .inl key) hb q2 ⟨szN (by simp), fz, wss_nil <| wss_nil <| wss_end [3] (fin [.tup [.str "put", d2]] ?_)⟩)
          unfold btw
          rw [q1, q2]
        | some d1 =>
          refine wss_cons <| ws_if <| pb_c <| pc_o <| pb_cmp <| rd_nm hb rfl <| rd_nm hb rfl <| c_notInK (k := .inl key) hb ?_
          rw [q1]
          refine iFF ?_
          refine pc_o1 <| pb_cmp <| PP.pr <| pp_ix <| pp_nm hb rfl <| pp_nm hb rfl <| ix_dic (k := .inl key) hb q1 <| PP.pr <| pp_ix <| pp_nm hb rfl <| pp_nm hb rfl <| ix_dic (k := .inl key) hb q2 <| c_nev hb (n := 10) (m := 10) (s1.get q1) (s2.get q2) ?_
          cases qe : PyData.eqv d1.py d2.py with
          | false =>
            show if (!PyData.eqv d1.py d2.py) = true then _ else _
            rw [qe]
            refine iTT ?_
            refine wss_cons <| ws_appV hb 2 rfl (pp_tup <| pl2 <| pp_str <| pp_ix <| pp_nm hb rfl <| pp_nm hb rfl <| ix_dic (k := .inl key) hb q2 ⟨szN (by simp), fz, wss_nil <| wss_nil <| wss_end [3] (fin [.tup [.str "put", d2]] ?_)⟩)
            unfold btw
            rw [q1, q2]
            simp [qe]
          | true =>
            show if (!PyData.eqv d1.py d2.py) = true then _ else _
            rw [qe]
            refine iFF <| wss_nil <| wss_nil <| wss_end [3] ?_
            have := fin [] (by unfold btw; rw [q1, q2]; simp [qe])
            rw [List.append_nil] at this
            exact this
  · obtain ⟨ks, h1, h2, rfl⟩ := h
    refine wss_frz 2 rfl ?_
    rw [toD_ls]
    exact wss_cons <| ws_retP <| pp_ty hb (id := "tuple") <| pl1 <| pp_nm hb rfl <| l_tuple (r ks h1 h2)
theorem f_between (tx : Tx W) : Df W 1 "deeds_between" (spP W.K 2 S_between) := d_deeds_between (fun f fd F m bn => Df.mkP tx.calm F m c_deeds_between rfl bn fun X hb ho ds R hl h => b_between (k := 0) tx hb ho ds R hl h) tx.F_deeds_between
end T

/-! K84u: sorted pairs. -/
namespace T
open PySem PySem.Spec L2 RZ Dn
/-! ### one order, one sorted list -/
theorem le_antisymm {p q : Int × Int} (h1 : lePr p q = true) (h2 : lePr q p = true) : p = q := by
  simp only [lePr, decide_eq_true_eq] at h1 h2
  refine Prod.ext ?_ ?_ <;> omega
theorem le_total (p q : Int × Int) : (lePr p q || lePr q p) = true := by
  simp only [lePr, Bool.or_eq_true, decide_eq_true_eq]
  omega
theorem le_trans' (p q r : Int × Int) (h1 : lePr p q = true) (h2 : lePr q r = true) : lePr p r = true := by
  simp only [lePr, decide_eq_true_eq] at *
  omega
theorem sortedPr (l : List (Int × Int)) : (l.mergeSort lePr).Pairwise fun p q => lePr p q = true := List.pairwise_mergeSort le_trans' le_total l
theorem perm_sortedP : ∀ {l m : List (Int × Int)}, l.Perm m → l.Pairwise (fun p q => lePr p q = true) → m.Pairwise (fun p q => lePr p q = true) → l = m
  | [], m, h, _, _ => h.nil_eq
  | x :: l, [], h, _, _ => absurd h.length_eq (by simp)
  | x :: l, y :: m, h, h1, h2 => by
    obtain ⟨a1, a2⟩ := List.pairwise_cons.mp h1
    obtain ⟨b1, b2⟩ := List.pairwise_cons.mp h2
    have e : x = y := by
      have hx : x ∈ y :: m := h.mem_iff.mp List.mem_cons_self
      have hy : y ∈ x :: l := h.mem_iff.mpr List.mem_cons_self
      rcases List.mem_cons.mp hx with z | z
      · exact z
      · rcases List.mem_cons.mp hy with w | w
        · exact w.symm
        · exact le_antisymm (a1 y w) (b1 x z)
    subst e
    rw [perm_sortedP h.cons_inv a2 b2]
theorem sort_perm {l m : List (Int × Int)} (h : l.Perm m) : l.mergeSort lePr = m.mergeSort lePr :=
  perm_sortedP ((List.mergeSort_perm l lePr).trans (h.trans (List.mergeSort_perm m lePr).symm)) (sortedPr l) (sortedPr m)
theorem nodup_of_map {α β : Type} {f : α → β} : ∀ {l : List α}, (l.map f).Nodup → l.Nodup
  | [], _ => List.nodup_nil
  | a :: l, h => by
    rw [List.map_cons, List.nodup_cons] at h
    exact List.nodup_cons.mpr ⟨fun m => h.1 (List.mem_map.mpr ⟨a, m, rfl⟩), nodup_of_map h.2⟩
/-- the program's pairs are the law's -/
theorem prs_law {its : List Item} (hk : Keyed its) (kd : Str) (v : List Int) (s : Sv) : prs its kd v s = prsL kd v s its := by
  unfold prs prsL keysOf
  refine sort_perm ?_
  have h1 := (List.mergeSort_perm ((its.filter fun it => lets s it.2.2).map (·.1)) leI).map fun j => (dist kd v (vecOf its j), j)
  refine h1.trans ?_
  rw [List.map_map]
  refine List.Perm.of_eq (List.map_congr_left fun it hit => ?_)
  show (dist kd v (vecOf its it.1), it.1) = pairL kd v it
  rw [vecOf_mem hk (List.mem_filter.mp hit).1]
  rfl
/-- strictly sorted pairs of numbers -/
structure SP (ps : List (Int × Int)) : Prop where
  lt : ps.Pairwise fun p q => lePr q p = false
  pos : ∀ p ∈ ps, 0 ≤ p.1 ∧ 0 ≤ p.2
  key : (ps.map (·.2)).Nodup
theorem lt_of {p q : Int × Int} (h : lePr p q = true) (n : p ≠ q) : lePr q p = false := by
  cases e : lePr q p with
  | false => rfl
  | true => exact absurd (le_antisymm h e) n
theorem sum_nonneg : ∀ {l : List Int}, (∀ x ∈ l, 0 ≤ x) → 0 ≤ l.sum
  | [], _ => by simp
  | x :: l, h => by
    have := h x List.mem_cons_self
    have := sum_nonneg fun y hy => h y (List.mem_cons_of_mem _ hy)
    simp only [List.sum_cons]
    omega
theorem part_nonneg (kd : Str) (d : Int) : 0 ≤ partOf kd d := by
  unfold partOf
  split
  · by_cases h : 0 ≤ d
    · exact Int.mul_nonneg h h
    · have := Int.mul_nonneg (a := -d) (b := -d) (by omega) (by omega)
      rwa [Int.neg_mul_neg] at this
  · split
    · split <;> omega
    · split <;> omega
theorem dist_nonneg (kd : Str) (v u : List Int) : 0 ≤ dist kd v u := by
  unfold dist joined
  have h : ∀ x ∈ (diffs v u).map (partOf kd), 0 ≤ x := fun x hx => by
    obtain ⟨d, _, rfl⟩ := List.mem_map.mp hx
    exact part_nonneg kd d
  generalize (diffs v u).map (partOf kd) = l at h
  split
  · cases l with
    | nil => exact Int.le_refl _
    | cons x l =>
      have := h x List.mem_cons_self
      have := (foldl_max_le l x).1
      show 0 ≤ l.foldl max x
      omega
  · exact sum_nonneg h
theorem prsL_sp {its : List Item} (hk : Keyed its) (hp : ∀ it ∈ its, 0 ≤ it.1) (kd : Str) (v : List Int) (s : Sv) : SP (prsL kd v s its) := by
  have pm := List.mergeSort_perm ((its.filter fun it => lets s it.2.2).map (pairL kd v)) lePr
  have kn : ((prsL kd v s its).map (·.2)).Nodup := by
    refine (pm.map (·.2)).nodup_iff.mpr ?_
    rw [List.map_map]
    exact hk.filter _
  refine ⟨?_, fun p hp' => ?_, kn⟩
  · have nd : (prsL kd v s its).Nodup := nodup_of_map kn
    exact (sortedPr _).imp₂ (fun p q h1 h2 => lt_of h1 h2) nd
  · obtain ⟨it, hit, rfl⟩ := List.mem_map.mp (pm.mem_iff.mp hp')
    exact ⟨dist_nonneg _ _ _, hp it (List.mem_filter.mp hit).1⟩
theorem prsL_len (kd : Str) (v : List Int) (s : Sv) (its : List Item) : (prsL kd v s its).length ≤ its.length := by
  unfold prsL
  rw [List.length_mergeSort, List.length_map]
  exact List.length_filter_le _ _
end T

/-! K84v: the first fault of each spoilt answer. -/
namespace T
open PySem PySem.Spec L2 RZ Dn
abbrev PI := Int × Int
def SS (qs : List PI) : Prop := qs.Pairwise fun p q => lePr q p = false
theorem le_refl' (p : PI) : lePr p p = true := by
  simp [lePr]
theorem le_of_lt {p q : PI} (h : lePr q p = false) : lePr p q = true := by
  have := le_total p q
  rw [h, Bool.or_false] at this
  exact this
theorem SS.nodup {qs : List PI} (h : SS qs) : qs.Nodup := h.imp fun h e => by
  rw [e, le_refl'] at h
  cases h
theorem SS.sub {as qs : List PI} (h : SS qs) (s : as.Sublist qs) : SS as := List.Pairwise.sublist s h
theorem ss_ord {qs : List PI} (h : SS qs) {i : Nat} {p q : PI} (h1 : qs[i]? = some p) (h2 : qs[i + 1]? = some q) : lePr q p = false := by
  obtain ⟨a1, e1⟩ := List.getElem?_eq_some_iff.mp h1
  obtain ⟨a2, e2⟩ := List.getElem?_eq_some_iff.mp h2
  have := List.pairwise_iff_getElem.mp h i (i + 1) a1 a2 (by omega)
  rwa [e1, e2] at this
theorem ord_none {qs : List PI} (h : SS qs) : (List.range (qs.length - 1)).find? (fun i => ordAt qs (i + 1)) = none := by
  rw [List.find?_eq_none]
  intro i hi
  have hi' : i < qs.length - 1 := by simpa using hi
  have h1 : qs[i]? = some qs[i] := List.getElem?_eq_getElem (by omega)
  have h2 : qs[i + 1]? = some qs[i + 1] := List.getElem?_eq_getElem (by omega)
  unfold ordAt
  rw [h2, show i + 1 - 1 = i from rfl, h1]
  simp [ss_ord h h1 h2]
theorem ord_first {a b : List PI} {x y : PI} (h : SS (a ++ [x])) (hxy : lePr y x = true) : (List.range ((a ++ x :: y :: b).length - 1)).find? (fun i => ordAt (a ++ x :: y :: b) (i + 1)) = some a.length := by
  rw [List.find?_range_eq_some]
  refine ⟨?_, by simp, fun j hj => ?_⟩
  · unfold ordAt
    have h1 : (a ++ x :: y :: b)[a.length + 1]? = some y := by
      rw [List.getElem?_append_right (by omega)]
      simp
    have h2 : (a ++ x :: y :: b)[a.length + 1 - 1]? = some x := by simp
    rw [h1, h2]
    exact hxy
  · have e : a ++ x :: y :: b = (a ++ [x]) ++ y :: b := by simp
    have hl : (a ++ [x]).length = a.length + 1 := by simp
    have h1 : (a ++ [x])[j]? = some ((a ++ [x])[j]'(by omega)) := List.getElem?_eq_getElem (by omega)
    have h2 : (a ++ [x])[j + 1]? = some ((a ++ [x])[j + 1]'(by omega)) := List.getElem?_eq_getElem (by omega)
    have h3 : (a ++ x :: y :: b)[j]? = some ((a ++ [x])[j]'(by omega)) := by
      rw [e, List.getElem?_append_left (by omega)]
      exact h1
    have h4 : (a ++ x :: y :: b)[j + 1]? = some ((a ++ [x])[j + 1]'(by omega)) := by
      rw [e, List.getElem?_append_left (by omega)]
      exact h2
    have h5 := ss_ord h h1 h2
    unfold ordAt
    rw [h4, show j + 1 - 1 = j from rfl, h3]
    simp only [h5]
    rfl
theorem pair_none {ps qs : List PI} (h : ∀ q ∈ qs, q ∈ ps) : qs.findIdx? (fun q => !decide (q ∈ ps)) = none := by
  rw [List.findIdx?_eq_none_iff]
  intro q hq
  simpa using h q hq
section
variable {ps : List PI} {n : Nat}
theorem fault_ok (h : SS ps) : faultQ ps n (ps.take n) = .non := by
  unfold faultQ
  rw [pair_none fun q hq => List.mem_of_mem_take hq, ord_none (h.sub (List.take_sublist n ps))]
  have hl : ¬ n < (ps.take n).length := by simp; omega
  simp only [if_neg hl]
  have : (ps.take n).find? (fun p => !decide (p ∈ ps.take n)) = none := by
    rw [List.find?_eq_none]
    intro p hp
    simpa using hp
  rw [this]
theorem fault_many (h : SS ps) (hn : n < ps.length) : faultQ ps n (ps.take (n + 1)) = fD "many" (n + 1 : Nat) := by
  unfold faultQ
  rw [pair_none fun q hq => List.mem_of_mem_take hq, ord_none (h.sub (List.take_sublist _ ps))]
  have hl : (ps.take (n + 1)).length = n + 1 := by simp; omega
  simp only [hl]
  rw [if_pos (by omega)]
variable {a b : List PI} {x y : PI}
theorem fault_missing (h : SS ps) (e : ps.take n = a ++ x :: b) : faultQ ps n (a ++ b) = fD "missing" x.2 := by
  have sa : SS (a ++ x :: b) := e ▸ h.sub (List.take_sublist n ps)
  have sb : (a ++ b).Sublist (a ++ x :: b) := List.Sublist.append_left (List.sublist_cons_self x b) a
  have mem : ∀ q ∈ a ++ b, q ∈ ps := fun q hq => List.mem_of_mem_take (by rw [e]; exact sb.mem hq)
  unfold faultQ
  rw [pair_none mem, ord_none (sa.sub sb)]
  have hl : ¬ n < (a ++ b).length := by
    have := congrArg List.length e
    simp at this ⊢
    omega
  simp only [if_neg hl]
  have nd := sa.nodup
  rw [List.nodup_append] at nd
  obtain ⟨n1, n2, n3⟩ := nd
  have n4 := List.nodup_cons.mp n2
  have hx : x ∉ a ++ b := fun m => by
    rcases List.mem_append.mp m with z | z
    · exact n3 x z x List.mem_cons_self rfl
    · exact n4.1 z
  have : (ps.take n).find? (fun p => !decide (p ∈ a ++ b)) = some x := by
    rw [e, List.find?_append]
    have : a.find? (fun p => !decide (p ∈ a ++ b)) = none := by
      rw [List.find?_eq_none]
      intro p hp
      simp [hp]
    rw [this, List.find?_cons, decide_eq_false hx]
    rfl
  rw [this]
theorem fault_swap (h : SS ps) (e : ps.take n = a ++ x :: y :: b) : faultQ ps n (a ++ y :: x :: b) = fD "order" (a.length + 1 : Nat) := by
  have sa : SS (a ++ x :: y :: b) := e ▸ h.sub (List.take_sublist n ps)
  have mem : ∀ q ∈ a ++ y :: x :: b, q ∈ ps := fun q hq => List.mem_of_mem_take (i := n) (by
    rw [e]
    simp at hq ⊢
    rcases hq with z | z | z | z
    · exact .inl z
    · exact .inr (.inr (.inl z))
    · exact .inr (.inl z)
    · exact .inr (.inr (.inr z)))
  have s1 : SS (a ++ [y]) := sa.sub (List.Sublist.append_left (by simp) a)
  have hxy : lePr y x = false := by
    have : SS [x, y] := sa.sub (by
      refine List.Sublist.trans ?_ (List.sublist_append_right a _)
      simp)
    exact (List.pairwise_cons.mp this).1 y (by simp)
  unfold faultQ
  rw [pair_none mem, ord_first s1 (le_of_lt hxy)]
theorem fault_dup (h : SS ps) (e : ps.take n = a ++ x :: b) : faultQ ps n (a ++ x :: x :: b) = fD "order" (a.length + 1 : Nat) := by
  have sa : SS (a ++ x :: b) := e ▸ h.sub (List.take_sublist n ps)
  have mem : ∀ q ∈ a ++ x :: x :: b, q ∈ ps := fun q hq => List.mem_of_mem_take (i := n) (by
    rw [e]
    simp at hq ⊢
    exact hq)
  have s1 : SS (a ++ [x]) := sa.sub (List.Sublist.append_left (by simp) a)
  unfold faultQ
  rw [pair_none mem, ord_first s1 (le_refl' x)]
theorem fault_pair (hk : (ps.map (·.2)).Nodup) (e : ps.take n = a ++ x :: b) (ny : y.2 = x.2) (nx : y ≠ x) : faultQ ps n (a ++ y :: b) = fD "pair" a.length := by
  have mx : x ∈ ps := List.mem_of_mem_take (i := n) (by rw [e]; simp)
  have hy : y ∉ ps := fun m => nx (by
    have : ∀ {l : List PI} {p q : PI}, (l.map (·.2)).Nodup → p ∈ l → q ∈ l → p.2 = q.2 → p = q := by
      intro l
      induction l with
      | nil => intro p q _ hp; cases hp
      | cons z l ih =>
        intro p q nd hp hq he
        rw [List.map_cons, List.nodup_cons] at nd
        rcases List.mem_cons.mp hp with e1 | hp'
        · rcases List.mem_cons.mp hq with e2 | hq'
          · rw [e1, e2]
          · exact absurd (show z.2 ∈ l.map (·.2) from List.mem_map.mpr ⟨q, hq', by rw [← e1, he]⟩) nd.1
        · rcases List.mem_cons.mp hq with e2 | hq'
          · exact absurd (show z.2 ∈ l.map (·.2) from List.mem_map.mpr ⟨p, hp', by rw [← e2, he]⟩) nd.1
          · exact ih nd.2 hp' hq' he
    exact this hk m mx ny)
  have : (a ++ y :: b).findIdx? (fun q => !decide (q ∈ ps)) = some a.length := by
    rw [List.findIdx?_eq_some_iff_getElem]
    refine ⟨by simp, by simp [hy], fun j hj => ?_⟩
    have : (a ++ y :: b)[j]'(by simp; omega) = a[j] := List.getElem_append_left hj
    rw [this]
    have : a[j] ∈ ps := List.mem_of_mem_take (i := n) (by rw [e]; exact List.mem_append_left _ (List.getElem_mem hj))
    simpa using this
  unfold faultQ
  rw [this]
end
end T

/-! K84w: spoilt answers. -/
namespace T
open PySem PySem.Spec L2 RZ Dn
variable {W : Wd} {X : Cx} {k : Nat}
theorem cutFrom (ds : List D) (n : Nat) : cutD ds (some (n : Int)) none = ds.drop n := by
  unfold cutD
  rw [HT.sIx_none, HT.sIx_nat]
  by_cases h : n ≤ ds.length
  · rw [Nat.min_eq_left h]
    exact List.take_of_length_le (by simp)
  · rw [Nat.min_eq_right (by omega), List.drop_eq_nil_of_le (Nat.le_refl _), List.drop_eq_nil_of_le (by omega)]
    simp
def Words : List Str := ["form", "pair", "order", "many", "missing"]
def DueOk (d : D) : Prop := d = .non ∨ ∃ w i, d = fD w i ∧ w ∈ Words ∧ i.natAbs < 2 ^ 40
structure FaultOk (ps : List PI) (n : Nat) (ads : List D) (due : D) : Prop where
  len : ads.length ≤ 1000
  row : ∀ d ∈ ads, ∀ es, d = .tup es → es.length ≤ 1000
  dok : DueOk due
  ans : (∃ (i : Nat) (d : D), ads[i]? = some d ∧ pairD d = false ∧ (∀ e ∈ ads.take i, pairD e = true) ∧ due = fD "form" i) ∨ ∃ qs : List PI, ads = qs.map dPr ∧ (∀ q ∈ qs, pairD (dPr q) = true) ∧ due = faultQ ps n qs
theorem pair_pos {q : PI} (h : 0 ≤ q.1 ∧ 0 ≤ q.2) : pairD (dPr q) = true := by
  simp [pairD, dPr, numD, intD, h.1, h.2]
theorem ne_pairs (qs : List PI) : (!PyData.eqv (O.val (D.lst (qs.map dPr))).toD.py (O.ls []).toD.py) = decide (qs ≠ []) := by
  cases qs <;> rfl
theorem sh_pairs (qs : List PI) : Sh 2 (.lst (qs.map dPr)) := fun d hd => by
  obtain ⟨q, _, rfl⟩ := List.mem_map.mp hd
  intro e he
  have he' : e = .int q.1 ∨ e = .int q.2 := by simpa [dPr] using he
  rcases he' with rfl | rfl <;> exact trivial
theorem FaultOk.mk' {ps : List PI} {n : Nat} {qs : List PI} {due : D} (hl : qs.length ≤ 1000) (hp : ∀ q ∈ qs, 0 ≤ q.1 ∧ 0 ≤ q.2) (hd : DueOk due) (e : faultQ ps n qs = due) : FaultOk ps n (qs.map dPr) due :=
  ⟨by simpa using hl, fun d hd es e => by
    obtain ⟨q, _, rfl⟩ := List.mem_map.mp hd
    cases e
    simp, hd, .inr ⟨qs, rfl, fun q hq => pair_pos (hp q hq), e.symm⟩⟩
theorem dueW {w : Str} {i : Int} (hw : w ∈ Words) (hi : i.natAbs < 2 ^ 40) : DueOk (fD w i) := .inr ⟨w, i, rfl, hw, hi⟩
def S_spoilt : Sg := fun ds R => ∃ (ps : List PI) (n : Nat), ds = [.lst (ps.map dPr), .int n] ∧ 1 ≤ n ∧ n ≤ 400 ∧ ps.length ≤ 400 ∧ SP ps ∧ (∀ p ∈ ps, p.2 < 2 ^ 40) ∧ ∀ ads due, FaultOk ps n ads due → R (.val (.tup [.lst ads, due]))
theorem b_spoilt (tx : Tx W) (hb : Bc W X ⟨k + 2, n__law_spoilt, defScope s__law_spoilt, fun _ => true⟩) (ho : Own X) (ds : List D) (R : O → Prop) (_ : ds.length = 2) (h : S_spoilt ds R) :
    WSs X (defBody s__law_spoilt) (begin0 n__law_spoilt 3 (.bor IH :: ds.map Slot.v)) { nx := fun _ => R (.val .non), rt := R } := by
  have g1 := tx.g_len
  obtain ⟨ps, n, rfl, hn, hn2, hz, sp, sm, r⟩ := h
  have d1 : 1 ≤ k + 2 := by omega
  have d2 : 2 ≤ k + 2 := by omega
  have ss : SS ps := sp.lt
  refine wss_cons <| ws_set hb 3 <| PP.po <| pp_slL <| pp_nm hb rfl ⟨_, rfl, pp_nm hb rfl ⟨(n : Int), rfl, ?_⟩⟩
  dsimp only
  rw [cutTo, ← List.map_take]
  generalize ha : ps.take n = ans
  have hl : ans.length ≤ n := by rw [← ha]; simp; omega
  have apos : ∀ q ∈ ans, 0 ≤ q.1 ∧ 0 ≤ q.2 := fun q hq => sp.pos q (List.mem_of_mem_take (i := n) (by rw [ha]; exact hq))
  have test : ∀ {Γ : List Dn.Slot} {T : Bool → Prop} {p1 p2 p3 : Pos}, Γ[3]? = some (.v (.lst (ans.map dPr))) → T (decide (ans ≠ [])) → PB X (.Compare (.Name "answer" p1) [.NotEq] [.List [] p2] p3) Γ T := fun {Γ T _ _ _} hg t => by
    refine pb_cmp <| rd_nm hb hg <| PO.pr <| po_lst <| pl_nil ⟨Nat.zero_le _, c_nev hb (n := 2) (m := 1) (sh_pairs ans) (fun _ z => nomatch z) ?_⟩
    rw [ne_pairs]
    exact t
  have nm {l : Nat} (h : l ≤ 401) : l ≤ sizeLine := szN (by omega)
  by_cases h0 : ans = []
  · have hno : ¬ ans ≠ [] := fun z => z h0
    refine wss_cons <| ws_par hb 4 5 <| plo_cons <| PP.po <| pp_if <| test rfl <| iNo hno <| pp_int <| plo_cons <| PP.po <| pp_if <| test rfl <| iNo hno <| pp_int <| plo_nil ⟨_, _, rfl, ?_⟩
    refine wss_cons <| ws_asg <| pp_if <| test rfl <| iNo hno <| pp_tup <| pl2 <| pp_int <| pp_int ⟨szN (by simp), pgd_tup hb <| pgs_cons <| pgd_name hb 6 trivial <| pgs_cons <| pgd_name hb 7 trivial <| pgs_nil ?_⟩
    refine wss_cons <| ws_if <| pb_eI <| pp_nm hb rfl ⟨_, rfl, pp_int ⟨_, rfl, iNo (by decide) <| wss_nil ?_⟩⟩
    refine wss_cons <| ws_if <| pb_c <| pc_a <| pb_cmp <| rd_nm hb rfl <| rd_int <| c_eqI <| iNo (by decide) <| iFF <| wss_nil ?_
    refine wss_cons <| ws_if <| pb_eI <| pp_nm hb rfl ⟨_, rfl, pp_int ⟨_, rfl, iNo (by decide) <| wss_nil ?_⟩⟩
    refine wss_cons <| ws_if <| pb_eI <| pp_nm hb rfl ⟨_, rfl, pp_int ⟨_, rfl, iNo (by decide) <| wss_nil ?_⟩⟩
    refine wss_cons <| ws_if <| pb_eI <| pp_nm hb rfl ⟨_, rfl, pp_int ⟨_, rfl, iNo (by decide) <| wss_nil ?_⟩⟩
    refine wss_cons <| ws_if <| pb_c <| pc_a <| pb_cmp <| rd_nm hb rfl <| rd_int <| c_eqI <| iNo (by decide) <| iFF <| wss_nil ?_
    refine wss_cons <| ws_retP <| pp_tup <| pl2 <| pp_nm hb rfl <| pp_non ⟨szN (by simp), r _ _ (.mk' (by omega) apos (.inl rfl) ?_)⟩
    rw [← ha]
    exact fault_ok ss
  have hne : ans ≠ [] := h0
  have hpos : 0 < ans.length := List.length_pos_iff.mpr h0
  refine wss_cons <| ws_par hb 4 5 <| plo_cons <| PP.po <| pp_if <| test rfl <| iY hne <| pp_callB hb tx.calm 0 (f_draw tx) rfl (pl1 <| pp_cl hb (id := "len") <| pl1 <| pp_nm hb rfl <| l_len ⟨rfl, _, rfl, by simp; omega, by simp; omega, fun i0 i1 i2 => plo_cons <| PP.po <| pp_if <| test rfl <| iY hne <| pp_callB hb tx.calm 0 (f_draw tx) rfl (pl1 <| pp_int ⟨rfl, _, rfl, by decide, by decide, fun kd k0 k1 => plo_nil ⟨_, _, rfl, ?_⟩⟩) d1⟩) d1
  obtain ⟨i, rfl⟩ := Int.eq_ofNat_of_zero_le i1
  have hi : i < ans.length := by simp at i2; exact i2
  obtain ⟨x, hx⟩ : ∃ x, ans[i]? = some x := ⟨_, List.getElem?_eq_getElem hi⟩
  have hdec : ans = ans.take i ++ x :: ans.drop (i + 1) := by
    have e1 : x = ans[i] := by
      rw [List.getElem?_eq_getElem hi] at hx
      exact (Option.some.inj hx).symm
    rw [e1, List.getElem_cons_drop, List.take_append_drop]
  have cA : cutD (ans.map dPr) none (some (i : Int)) = (ans.take i).map dPr := by rw [cutTo, List.map_take]
  have cB : cutD (ans.map dPr) (some ((i : Int) + 1)) none = (ans.drop (i + 1)).map dPr := by rw [show ((i : Int) + 1) = ((i + 1 : Nat) : Int) by omega, cutFrom, List.map_drop]
  have lA : (ans.take i).length = i := by simp; omega
  have lB : (ans.drop (i + 1)).length = ans.length - (i + 1) := by simp
  have xpos := apos x (List.mem_of_getElem? hx)
  have xm : x.2.natAbs < 2 ^ 40 := by
    have := sm x (List.mem_of_mem_take (i := n) (by rw [ha]; exact List.mem_of_getElem? hx))
    omega
  have pA : ∀ q ∈ ans.take i, 0 ≤ q.1 ∧ 0 ≤ q.2 := fun q hq => apos q (List.mem_of_mem_take hq)
  have pB : ∀ q ∈ ans.drop (i + 1), 0 ≤ q.1 ∧ 0 ≤ q.2 := fun q hq => apos q (List.mem_of_mem_drop hq)
  have hdec2 : ps.take n = ans.take i ++ x :: ans.drop (i + 1) := ha.trans hdec
  refine wss_cons <| ws_asg <| pp_if <| test rfl <| iY hne <| pp_ix <| pp_nm hb rfl <| pp_nm hb rfl <| ix_lst (d := dPr x) (Dn.atI_nat (by rw [List.getElem?_map, hx]; rfl)) <| pgd_tup hb <| pgs_cons <| pgd_name hb 6 trivial <| pgs_cons <| pgd_name hb 7 trivial <| pgs_nil ?_
  refine wss_cons <| ws_if <| pb_eI <| pp_nm hb rfl ⟨_, rfl, pp_int ⟨_, rfl, iD (fun e => ?_) fun e => wss_nil ?_⟩⟩
  · refine wss_cons <| ws_retP <| pp_tup <| pl2 <| pp_op <| pp_slL <| pp_nm hb rfl ⟨_, rfl, pp_nm hb rfl ⟨_, rfl, pp_slL <| pp_nm hb rfl ⟨_, rfl, pp_op <| pp_nm hb rfl <| pp_int <| o_add ⟨_, rfl, o_catL (nm (by rw [cA, cB]; simp; omega)) <| pp_tup <| pl2 <| pp_str <| pp_nm hb rfl ⟨szN (by simp), szN (by simp), r _ (fD "missing" x.2) ?_⟩⟩⟩⟩⟩
    rw [cA, cB, ← List.map_append]
    refine .mk' (by simp; omega) (fun q hq => ?_) (dueW (by decide) xm) (fault_missing ss hdec2)
    rcases List.mem_append.mp hq with z | z
    · exact pA q z
    · exact pB q z
  let Γ0 : List Dn.Slot := [.bor IH, .v (.lst (ps.map dPr)), .v (.int n), .v (.lst (ans.map dPr)), .v (.int i), .v (.int kd), .v (.int x.1), .v (.int x.2)]
  refine wss_cut (fun Γ' => Γ' = Γ0) (ws_if <| pb_c <| pc_a <| pb_cmp <| rd_nm hb rfl <| rd_int <| c_eqI <| iD (fun e => pc_a1 <| pb_cmp <| rd_nm hb rfl <| rd_int <| c_gt <| iD (fun e2 => ?_) fun e2 => wss_nil rfl) fun e => iFF <| wss_nil rfl) fun Γ' h => ?_
  · have hi0 : 0 < i := by omega
    obtain ⟨j, rfl⟩ : ∃ j, i = j + 1 := ⟨i - 1, by omega⟩
    have hj : j < ans.length := by omega
    have e5 : ans.take (j + 1) = ans.take j ++ [ans[j]] := by rw [List.take_succ, List.getElem?_eq_getElem hj]; rfl
    have cC : cutD (ans.map dPr) none (some (((j + 1 : Nat) : Int) - 1)) = (ans.take j).map dPr := by rw [show (((j + 1 : Nat) : Int) - 1) = (j : Int) by omega, cutTo, List.map_take]
    have lC : (ans.take j).length = j := by simp; omega
    have at1 : atI (ans.map dPr) ((j + 1 : Nat) : Int) = some (dPr x) := Dn.atI_nat (by rw [List.getElem?_map, hx]; rfl)
    have at2 : atI (ans.map dPr) (((j + 1 : Nat) : Int) - 1) = some (dPr ans[j]) := by
      rw [show (((j + 1 : Nat) : Int) - 1) = (j : Int) by omega]
      exact Dn.atI_nat (by rw [List.getElem?_map, List.getElem?_eq_getElem hj]; rfl)
    refine wss_cons <| ws_retP <| pp_tup <| pl2 <| pp_op <| pp_op <| pp_slL <| pp_nm hb rfl ⟨_, rfl, pp_op <| pp_nm hb rfl <| pp_int <| o_sub ⟨_, rfl, PO.pp <| po_lst <| pl2 <| pp_ix <| pp_nm hb rfl <| pp_nm hb rfl <| ix_lst at1 <| pp_ix <| pp_nm hb rfl <| pp_op <| pp_nm hb rfl <| pp_int <| o_sub <| ix_lst at2 ⟨szN (by simp), o_catL (es := [dPr x, dPr ans[j]]) (nm (by rw [cC]; simp; omega)) <| pp_slL <| pp_nm hb rfl ⟨_, rfl, pp_op <| pp_nm hb rfl <| pp_int <| o_add ⟨_, rfl, o_catL (nm (by rw [cC, cB]; simp; omega)) <| pp_tup <| pl2 <| pp_str <| pp_nm hb rfl ⟨szN (by simp), szN (by simp), r _ (fD "order" (j + 1 : Nat)) ?_⟩⟩⟩⟩⟩⟩
    rw [cC, cB]
    have e6 : (ans.take j).map dPr ++ [dPr x, dPr ans[j]] ++ (ans.drop (j + 1 + 1)).map dPr = (ans.take j ++ x :: ans[j] :: ans.drop (j + 1 + 1)).map dPr := by simp
    rw [e6]
    have hf := fault_swap (a := ans.take j) (x := ans[j]) (y := x) (b := ans.drop (j + 1 + 1)) ss (by rw [hdec2, e5, List.append_assoc]; rfl)
    rw [lC] at hf
    refine .mk' (by simp; omega) (fun q hq => ?_) (dueW (by decide) (by omega)) hf
    rcases List.mem_append.mp hq with z | z
    · exact apos q (List.mem_of_mem_take z)
    · rcases List.mem_cons.mp z with rfl | z
      · exact xpos
      · rcases List.mem_cons.mp z with rfl | z
        · exact apos _ (List.getElem_mem hj)
        · exact pB q z
  subst h
  refine wss_cons <| ws_if <| pb_eI <| pp_nm hb rfl ⟨_, rfl, pp_int ⟨_, rfl, iD (fun e => ?_) fun e => wss_nil ?_⟩⟩
  · refine wss_cons <| ws_retP <| pp_tup <| pl2 <| pp_op <| pp_op <| pp_slL <| pp_nm hb rfl ⟨_, rfl, pp_nm hb rfl ⟨_, rfl, PO.pp <| po_lst <| pl1 <| pp_tup <| pl2 <| pp_op <| pp_op <| pp_nm hb rfl <| pp_int <| o_add <| pp_callB hb tx.calm 0 (f_draw tx) rfl (pl1 <| pp_int ⟨rfl, _, rfl, by decide, by decide, fun z z0 z1 => o_add <| pp_nm hb rfl ⟨szN (by simp), szN (by simp), o_catL (es := [dPr (x.1 + 1 + z, x.2)]) (nm (by rw [cA]; simp; omega)) <| pp_slL <| pp_nm hb rfl ⟨_, rfl, pp_op <| pp_nm hb rfl <| pp_int <| o_add ⟨_, rfl, o_catL (nm (by rw [cA, cB]; simp; omega)) <| pp_tup <| pl2 <| pp_str <| pp_nm hb rfl ⟨szN (by simp), szN (by simp), r _ (fD "pair" (i : Nat)) ?_⟩⟩⟩⟩⟩) d1⟩⟩
    rw [cA, cB]
    have e6 : (ans.take i).map dPr ++ [dPr (x.1 + 1 + z, x.2)] ++ (ans.drop (i + 1)).map dPr = (ans.take i ++ (x.1 + 1 + z, x.2) :: ans.drop (i + 1)).map dPr := by simp
    rw [e6]
    have hf := fault_pair (y := (x.1 + 1 + z, x.2)) sp.key hdec2 rfl (fun e => by
      have := congrArg Prod.fst e
      simp at this
      omega)
    rw [lA] at hf
    refine .mk' (by simp; omega) (fun q hq => ?_) (dueW (by decide) (by omega)) hf
    rcases List.mem_append.mp hq with w | w
    · exact pA q w
    · rcases List.mem_cons.mp w with rfl | w
      · exact ⟨by show 0 ≤ x.1 + 1 + z; omega, xpos.2⟩
      · exact pB q w
  refine wss_cons <| ws_if <| pb_eI <| pp_nm hb rfl ⟨_, rfl, pp_int ⟨_, rfl, iD (fun e => ?_) fun e => wss_nil ?_⟩⟩
  · refine wss_cons <| ws_retP <| pp_tup <| pl2 <| pp_op <| pp_op <| pp_slL <| pp_nm hb rfl ⟨_, rfl, pp_nm hb rfl ⟨_, rfl, PO.pp <| po_lst <| pl1 <| pp_callB hb tx.calm 0 (f_pick tx) rfl (pl1 <| PO.pp <| po_lst <| pl_cons <| PO.pp <| po_lst <| pl2 <| pp_nm hb rfl <| pp_nm hb rfl ⟨szN (by simp), pl_cons <| pp_tup <| pl1 <| pp_nm hb rfl ⟨szN (by simp), pl_cons <| pp_tup <| pl2 <| pp_nm hb rfl <| pp_bl ⟨szN (by simp), pl_cons <| pp_tup <| pl2 <| pp_op <| pp_int <| pp_int <| o_sub <| pp_nm hb rfl ⟨szN (by simp), pl_cons <| pp_non <| pl_nil ⟨szN (by simp), rfl, [.lst [.int x.1, .int x.2], .tup [.int x.1], .tup [.int x.1, .bl true], .tup [.int (0 - 1), .int x.2], .non], rfl, by simp, by simp, fun d hd => ?_⟩⟩⟩⟩⟩) d2⟩⟩
    have hbad : pairD d = false ∧ ∀ es, d = .tup es → es.length ≤ 1000 := by
      simp only [List.mem_cons, List.not_mem_nil, or_false] at hd
      rcases hd with rfl | rfl | rfl | rfl | rfl
      · exact ⟨rfl, fun es z => by cases z⟩
      · exact ⟨by simp [pairD], fun es z => by cases z; simp⟩
      · exact ⟨by simp [pairD, numD, intD], fun es z => by cases z; simp⟩
      · exact ⟨by simp [pairD, numD, intD], fun es z => by cases z; simp⟩
      · exact ⟨rfl, fun es z => by cases z⟩
    refine ⟨szN (by simp), o_catL (es := [d]) (nm (by rw [cA]; simp; omega)) <| pp_slL <| pp_nm hb rfl ⟨_, rfl, pp_op <| pp_nm hb rfl <| pp_int <| o_add ⟨_, rfl, o_catL (nm (by rw [cA, cB]; simp; omega)) <| pp_tup <| pl2 <| pp_str <| pp_nm hb rfl ⟨szN (by simp), szN (by simp), r _ (fD "form" (i : Nat)) ?_⟩⟩⟩⟩
    rw [cA, cB]
    have rowP : ∀ q : PI, ∀ es, dPr q = .tup es → es.length ≤ 1000 := fun q es z => by
      cases z
      simp
    refine ⟨by simp; omega, fun d' hd' es z => ?_, dueW (by decide) (by omega), .inl ⟨i, d, ?_, hbad.1, fun e he => ?_, rfl⟩⟩
    · rcases List.mem_append.mp hd' with w | w
      · rcases List.mem_append.mp w with w | w
        · obtain ⟨q, _, rfl⟩ := List.mem_map.mp w
          exact rowP q es z
        · have : d' = d := by simpa using w
          rw [this] at z
          exact hbad.2 es z
      · obtain ⟨q, _, rfl⟩ := List.mem_map.mp w
        exact rowP q es z
    · rw [List.append_assoc, List.getElem?_append_right (by rw [List.length_map, lA]; omega), List.length_map, lA]
      simp
    · rw [List.append_assoc, List.take_append_of_le_length (by rw [List.length_map, lA]; omega)] at he
      obtain ⟨q, hq, rfl⟩ := List.mem_map.mp (List.mem_of_mem_take he)
      exact pair_pos (pA q hq)
  have cD : cutD (ans.map dPr) none (some ((i : Int) + 1)) = (ans.take (i + 1)).map dPr := by rw [show ((i : Int) + 1) = ((i + 1 : Nat) : Int) by omega, cutTo, List.map_take]
  have cE : cutD (ans.map dPr) (some (i : Int)) none = (ans.drop i).map dPr := by rw [cutFrom, List.map_drop]
  refine wss_cons <| ws_if <| pb_eI <| pp_nm hb rfl ⟨_, rfl, pp_int ⟨_, rfl, iD (fun e => ?_) fun e => wss_nil ?_⟩⟩
  · refine wss_cons <| ws_retP <| pp_tup <| pl2 <| pp_op <| pp_slL <| pp_nm hb rfl ⟨_, rfl, pp_op <| pp_nm hb rfl <| pp_int <| o_add ⟨_, rfl, pp_slL <| pp_nm hb rfl ⟨_, rfl, pp_nm hb rfl ⟨_, rfl, o_catL (szN (by rw [cD, cE]; simp; omega)) <| pp_tup <| pl2 <| pp_str <| pp_op <| pp_nm hb rfl <| pp_int <| o_add ⟨szN (by simp), szN (by simp), r _ (fD "order" (i + 1 : Nat)) ?_⟩⟩⟩⟩⟩
    rw [cD, cE, ← List.map_append]
    have e1 : ans.take (i + 1) = ans.take i ++ [x] := by rw [List.take_succ, hx]; rfl
    have e2 : ans.drop i = x :: ans.drop (i + 1) := by
      have e3 : x = ans[i] := by
        rw [List.getElem?_eq_getElem hi] at hx
        exact (Option.some.inj hx).symm
      rw [e3, List.getElem_cons_drop]
    have hf := fault_dup (a := ans.take i) (x := x) (b := ans.drop (i + 1)) ss hdec2
    rw [lA] at hf
    rw [show ans.take (i + 1) ++ ans.drop i = ans.take i ++ x :: x :: ans.drop (i + 1) by rw [e1, e2, List.append_assoc]; rfl]
    refine .mk' (by simp; omega) (fun q hq => ?_) (dueW (by decide) (by omega)) hf
    rcases List.mem_append.mp hq with z | z
    · exact pA q z
    · rcases List.mem_cons.mp z with rfl | z
      · exact xpos
      · rcases List.mem_cons.mp z with rfl | z
        · exact xpos
        · exact pB q z
  have last : R (.val (.tup [.lst (ans.map dPr), .non])) := r _ _ (.mk' (by omega) apos (.inl rfl) (by rw [← ha]; exact fault_ok ss))
  refine wss_cut (fun Γ' => Γ' = Γ0) (ws_if <| pb_c <| pc_a <| pb_cmp <| rd_nm hb rfl <| rd_int <| c_eqI <| iD (fun e => pc_a1 <| pb_gI <| pp_cl hb (id := "len") <| pl1 <| pp_nm hb rfl <| l_len ⟨_, rfl, pp_nm hb rfl ⟨_, rfl, iD (fun e2 => ?_) fun e2 => wss_nil rfl⟩⟩) fun e => iFF <| wss_nil rfl) fun Γ' h => ?_
  · have hn3 : n < ps.length := by simp at e2; omega
    refine wss_cons <| ws_retP <| pp_tup <| pl2 <| pp_slL <| pp_nm hb rfl ⟨_, rfl, pp_op <| pp_nm hb rfl <| pp_int <| o_add ⟨_, rfl, pp_tup <| pl2 <| pp_str <| pp_op <| pp_nm hb rfl <| pp_int <| o_add ⟨szN (by simp), szN (by simp), r _ (fD "many" (n + 1 : Nat)) ?_⟩⟩⟩
    rw [show ((n : Int) + 1) = ((n + 1 : Nat) : Int) by omega, cutTo, ← List.map_take]
    exact .mk' (by simp; omega) (fun q hq => sp.pos q (List.mem_of_mem_take hq)) (dueW (by decide) (by omega)) (fault_many ss hn3)
  subst h
  exact wss_cons <| ws_retP <| pp_tup <| pl2 <| pp_nm hb rfl <| pp_non ⟨szN (by simp), last⟩
theorem f_spoilt (tx : Tx W) : Df W 3 "_law_spoilt" (spB W.K IH 2 S_spoilt) := d__law_spoilt (fun f fd F m bn => Df.mkB tx.calm F m c__law_spoilt rfl bn fun X hb ho ds R hl h => b_spoilt (k := 0) tx hb ho ds R hl h) tx.F__law_spoilt
end T

/-! K84x: how long shown data are. -/
namespace T
open PySem PySem.Spec L2 RZ Dn
/-- data that are shown: numbers, texts, None, tuples; n levels, at most w signs -/
def Wt : Nat → D → Nat → Prop
  | _, .non, w => 4 ≤ w
  | _, .int i, w => i.natAbs < 10 ^ 30 ∧ 31 ≤ w
  | _, .str x, w => PyData.strOk x = true ∧ 10 * x.length + 2 ≤ w
  | n + 1, .tup ds, w => ∃ u, (∀ d ∈ ds, Wt n d u) ∧ ds.length * (u + 2) + 3 ≤ w
  | _, _, _ => False
theorem piled_le (w : Nat) : ∀ ts : List Str, (∀ t ∈ ts, t.length ≤ w) → piled ts ≤ ts.length * (w + 2)
  | [], _ => by simp [piled]
  | t :: ts, h => by
    have h1 := h t List.mem_cons_self
    have h2 := piled_le w ts fun x hx => h x (List.mem_cons_of_mem _ hx)
    rw [piled_cons]
    simp only [List.length_cons, Nat.add_mul, Nat.one_mul]
    omega
theorem tuple_le (w : Nat) (ts : List Str) (h : ∀ t ∈ ts, t.length ≤ w) : (tupleText ts).length ≤ ts.length * (w + 2) + 3 := by
  have hp := piled_le w ts h
  unfold tupleText
  rw [strLen_append, strLen_append]
  have h1 : (Str.join ", " ts).length ≤ ts.length * (w + 2) := by
    by_cases e : ts = []
    · subst e
      exact Nat.zero_le _
    · have := join_length_add ts e
      omega
  have h2 : (("(" : String) : Str).length = 1 := by decide +kernel
  have h3 : ((if ts.length == 1 then ",)" else ")" : String) : Str).length ≤ 2 := by
    split <;> decide +kernel
  omega
theorem shownAll_map : ∀ ds : List D, PyData.shownAll (D.pys ds) = ds.map fun d => d.py.shown
  | [] => rfl
  | d :: ds => by
    show d.py.shown :: PyData.shownAll (D.pys ds) = _
    rw [shownAll_map ds]
    rfl
theorem wt_shown : ∀ (n : Nat) (d : D) (w : Nat), Wt n d w → d.py.shown.length ≤ w
  | n, .non, w, h => by
    have e : ((("None" : String) : Str)).length = 4 := by decide +kernel
    show (("None" : String) : Str).length ≤ w
    rw [e]
    cases n <;> exact h
  | n, .int i, w, h => by
    have h' : i.natAbs < 10 ^ 30 ∧ 31 ≤ w := by cases n <;> exact h
    have e := int_text_length_le10 (a := i) (k := 30) (by decide) h'.1
    show (Str.ofString (toString i)).length ≤ w
    rw [ofString_length]
    omega
  | n, .str x, w, h => by
    have h' : PyData.strOk x = true ∧ 10 * x.length + 2 ≤ w := by cases n <;> exact h
    refine Nat.le_trans (PySem.StrLaws.reprText_len x fun c hc => ?_) h'.2
    have h1 := h'.1
    unfold PyData.strOk at h1
    rw [Array.all_eq_true_iff_forall_mem] at h1
    have := h1 c (by simpa using hc)
    have h2 : c < 0x110000 := by simpa using this
    omega
  | n + 1, .tup ds, w, h => by
    obtain ⟨u, h1, h2⟩ := h
    refine Nat.le_trans (tuple_le u _ fun t ht => ?_) (by
      show (PyData.shownAll (D.pys ds)).length * (u + 2) + 3 ≤ w
      rw [shownAll_map, List.length_map]
      exact h2)
    have ht' : t ∈ PyData.shownAll (D.pys ds) := ht
    rw [shownAll_map] at ht'
    obtain ⟨d, hd, rfl⟩ := List.mem_map.mp ht'
    exact wt_shown n d u (h1 d hd)
  | 0, .tup _, _, h => h.elim
  | 0, .bl _, _, h => h.elim
  | n + 1, .bl _, _, h => h.elim
  | 0, .lst _, _, h => h.elim
  | n + 1, .lst _, _, h => h.elim
  | 0, .dic _, _, h => h.elim
  | n + 1, .dic _, _, h => h.elim
  | 0, .scr _, _, h => h.elim
  | n + 1, .scr _, _, h => h.elim
theorem wt_sh : ∀ (n : Nat) (d : D) (w : Nat), Wt n d w → Sh n d ∧ NoB n d
  | n, .non, w, h => by cases n <;> exact ⟨trivial, trivial⟩
  | n, .int i, w, h => by cases n <;> exact ⟨trivial, trivial⟩
  | n, .str x, w, h => by
    have h' : PyData.strOk x = true ∧ 10 * x.length + 2 ≤ w := by cases n <;> exact h
    cases n <;> exact ⟨h'.1, trivial⟩
  | n + 1, .tup ds, w, h => by
    obtain ⟨u, h1, h2⟩ := h
    exact ⟨fun d hd => (wt_sh n d u (h1 d hd)).1, fun d hd => (wt_sh n d u (h1 d hd)).2⟩
  | 0, .tup _, _, h => h.elim
  | 0, .bl _, _, h => h.elim
  | n + 1, .bl _, _, h => h.elim
  | 0, .lst _, _, h => h.elim
  | n + 1, .lst _, _, h => h.elim
  | 0, .dic _, _, h => h.elim
  | n + 1, .dic _, _, h => h.elim
  | 0, .scr _, _, h => h.elim
  | n + 1, .scr _, _, h => h.elim
theorem log_ok {i : Int} (h : i.natAbs < 10 ^ 30) : i.natAbs.log2 < 1920 := by
  by_cases h0 : i.natAbs = 0
  · rw [h0]; decide
  · rw [Nat.log2_lt h0]
    refine Nat.lt_of_lt_of_le h ?_
    exact Nat.le_trans (by decide : 10 ^ 30 ≤ 2 ^ 100) (Nat.pow_le_pow_right (by decide) (by decide))
theorem wt_showable : ∀ (n : Nat) (d : D) (w : Nat), Wt n d w → d.py.showable = true
  | n, .non, w, h => rfl
  | n, .int i, w, h => by
    have h' : i.natAbs < 10 ^ 30 ∧ 31 ≤ w := by cases n <;> exact h
    show decide (i.natAbs.log2 < 1920) = true
    exact decide_eq_true (log_ok h'.1)
  | n, .str x, w, h => rfl
  | n + 1, .tup ds, w, h => by
    obtain ⟨u, h1, h2⟩ := h
    show PyData.showableAll (D.pys ds) = true
    have : ∀ es : List D, (∀ d ∈ es, d.py.showable = true) → PyData.showableAll (D.pys es) = true := by
      intro es
      induction es with
      | nil => intro _; rfl
      | cons e es ih =>
        intro he
        show (e.py.showable && PyData.showableAll (D.pys es)) = true
        rw [he e List.mem_cons_self, ih fun d hd => he d (List.mem_cons_of_mem _ hd)]
        rfl
    exact this ds fun d hd => wt_showable n d u (h1 d hd)
  | 0, .tup _, _, h => h.elim
  | 0, .bl _, _, h => h.elim
  | n + 1, .bl _, _, h => h.elim
  | 0, .lst _, _, h => h.elim
  | n + 1, .lst _, _, h => h.elim
  | 0, .dic _, _, h => h.elim
  | n + 1, .dic _, _, h => h.elim
  | 0, .scr _, _, h => h.elim
  | n + 1, .scr _, _, h => h.elim
theorem sa_of {n w : Nat} {xs : List D} (h : Wt n (.tup xs) w) (hn : n ≤ 60) (hw : w ≤ 16777216) : Sa (.tup xs) :=
  .inr (.inr ⟨xs, rfl, n, hn, (wt_sh n _ w h).1, (wt_sh n _ w h).2, wt_showable n _ w h, by rw [sizeLine_eq]; exact Nat.le_trans (wt_shown n _ w h) hw⟩)
theorem due_sa {d : D} (h : DueOk d) : Sa d := by
  rcases h with rfl | ⟨w, i, rfl, hw, hi⟩
  · exact .inl rfl
  · refine sa_of (n := 1) (w := 2 * (100 + 2) + 3) ⟨100, fun d hd => ?_, by simp⟩ (by decide) (by decide)
    have hd' : d = .str w ∨ d = .int i := by simpa using hd
    have wl : PyData.strOk w = true ∧ 10 * w.length + 2 ≤ 100 := (by decide +kernel : ∀ w ∈ Words, PyData.strOk w = true ∧ 10 * w.length + 2 ≤ 100) w hw
    rcases hd' with rfl | rfl
    · exact wl
    · exact ⟨Nat.lt_of_lt_of_le hi (by decide), by decide⟩
end T

/-! K84y: the answers are right. -/
namespace T
open PySem PySem.Spec L2 RZ Dn
variable {W : Wd} {X : Cx} {k : Nat}
theorem sortI_perm {l m : List Int} (h : l.Perm m) : l.mergeSort leI = m.mergeSort leI :=
  perm_sorted_eq ((List.mergeSort_perm l leI).trans (h.trans (List.mergeSort_perm m leI).symm)) (sorted_leI l) (sorted_leI m)
theorem keys_law (kd : Str) (v : List Int) (s : Sv) (its : List Item) : (keysOf its s).mergeSort leI = ((prsL kd v s its).map (·.2)).mergeSort leI := by
  refine sortI_perm ?_
  have h := (List.mergeSort_perm ((its.filter fun it => lets s it.2.2).map (pairL kd v)) lePr).map (·.2)
  rw [List.map_map] at h
  exact h.symm
/-- the same thing is asked twice: the branch is not taken -/
theorem pb_same {W : Wd} {X : Cx} {bx : Bx} {Γ : List Dn.Slot} (tx : Tx W) (hb : Bc W X bx) {a b : Expr} {p pos : Pos} {Z : Bool → Prop} (h : PP X a Γ fun d => PP X b Γ fun e => d = e ∧ Sa d ∧ Z false) (hk : 1 ≤ bx.k)
    (hg : bx.sc.names.lookup ("_law_same" : Str) = some .globalImplicit := by rfl) (he : starEach [a, b] X.env = (false, eval a X.env) :: starEach [b] X.env := by rfl) (he2 : starEach [b] X.env = (false, eval b X.env) :: starEach [] X.env := by rfl)
    (hpl : (backTo pos (starEach [b] X.env)).any (·.1) = false := by rfl) {pos2 : Pos} : PB X (.UnaryOp .Not (.Call (.Name "_law_same" p) [a, b] [] pos) pos2) Γ Z :=
  pb_not <| pb_val (pp_call hb tx.calm (f_same tx) (pl2 (h.imp fun d h => h.imp fun e ⟨h1, h2, h3⟩ => ⟨rfl, d, by rw [h1], h2, true, rfl, h3⟩) he he2) hk hg (by decide) he hpl) (by intro _; rfl)
end T
namespace T
open PySem PySem.Spec L2 RZ Dn
variable {W : Wd} {X : Cx} {k : Nat}
theorem prsL_mem {kd : Str} {v : List Int} {s : Sv} {its : List Item} {p : PI} (h : p ∈ prsL kd v s its) : ∃ it ∈ its, p = pairL kd v it := by
  obtain ⟨it, hit, rfl⟩ := List.mem_map.mp ((List.mergeSort_perm ((its.filter fun it => lets s it.2.2).map (pairL kd v)) lePr).mem_iff.mp h)
  exact ⟨it, (List.mem_filter.mp hit).1, rfl⟩
theorem part_le (kd : Str) {d : Int} (h : d.natAbs < 2 ^ 41) : partOf kd d ≤ 2 ^ 82 := by
  unfold partOf
  split
  · have h1 : d.natAbs * d.natAbs ≤ 2 ^ 41 * 2 ^ 41 := Nat.mul_le_mul (by omega) (by omega)
    have h2 : d * d = ((d.natAbs * d.natAbs : Nat) : Int) := by rw [Int.natAbs_mul_self]
    rw [h2]
    have h3 : (2 : Nat) ^ 41 * 2 ^ 41 = 2 ^ 82 := by decide
    omega
  · split
    · split <;> omega
    · split <;> omega
theorem sum_le {c : Int} : ∀ {l : List Int}, (∀ x ∈ l, x ≤ c) → l.sum ≤ l.length * c
  | [], _ => by simp
  | x :: l, h => by
    have h1 := h x List.mem_cons_self
    have h2 := sum_le fun y hy => h y (List.mem_cons_of_mem _ hy)
    simp only [List.sum_cons, List.length_cons, Int.natCast_add, Int.add_mul]
    omega
theorem dist_lt (kd : Str) {v u : List Int} (nv : Near v) (nu : Near u) (hv : v.length ≤ 1000) : (dist kd v u).natAbs < 10 ^ 30 := by
  have h0 := dist_nonneg kd v u
  have hl : ((diffs v u).map (partOf kd)).length ≤ 1000 := by simp [diffs]; omega
  have hb : ∀ x ∈ (diffs v u).map (partOf kd), x ≤ 2 ^ 82 := fun x hx => by
    obtain ⟨d, hd, rfl⟩ := List.mem_map.mp hx
    obtain ⟨a, ha, b, hb, rfl⟩ := diffs_mem hd
    have := nv a ha
    have := nu b hb
    exact part_le kd (by omega)
  have h1 : dist kd v u ≤ 1000 * 2 ^ 82 := by
    unfold dist joined
    generalize (diffs v u).map (partOf kd) = l at hl hb
    split
    · cases l with
      | nil => show (0 : Int) ≤ _; omega
      | cons x l =>
        obtain ⟨_, _, h3⟩ := foldl_max_le l x
        show l.foldl max x ≤ _
        rcases h3 with h3 | h3
        · have := hb x List.mem_cons_self
          omega
        · have := hb _ (List.mem_cons_of_mem _ h3)
          omega
    · have := sum_le hb
      have h4 : (l.length : Int) * 2 ^ 82 ≤ 1000 * 2 ^ 82 := Int.mul_le_mul_of_nonneg_right (by omega) (by omega)
      omega
  omega
/-- small pairs may be shown -/
theorem wtP {qs : List PI} (hl : qs.length ≤ 400) (h : ∀ p ∈ qs, p.1.natAbs < 10 ^ 30 ∧ p.2.natAbs < 10 ^ 30) : Wt 2 (.tup (qs.map dPr)) 30000 := by
  refine ⟨69, fun d hd => ?_, by rw [List.length_map]; omega⟩
  obtain ⟨p, hp, rfl⟩ := List.mem_map.mp hd
  refine ⟨31, fun e he => ?_, by simp⟩
  have he' : e = .int p.1 ∨ e = .int p.2 := by simpa [dPr] using he
  rcases he' with rfl | rfl
  · exact ⟨(h p hp).1, Nat.le_refl _⟩
  · exact ⟨(h p hp).2, Nat.le_refl _⟩
theorem any_int (ns : List Int) (j : Int) : (ns.map D.int).any (fun z => PyData.eqv z.py (D.int j).py) = decide (j ∈ ns) := by
  rw [List.any_map, Bool.eq_iff_iff, List.any_eq_true, decide_eq_true_eq]
  constructor
  · rintro ⟨x, hx, e⟩
    have e' : PyData.eqv (D.int x).py (D.int j).py = true := e
    rw [eqv_int] at e'
    rw [← of_decide_eq_true e']
    exact hx
  · intro h
    refine ⟨j, h, ?_⟩
    show PyData.eqv (D.int j).py (D.int j).py = true
    rw [eqv_int]
    exact decide_eq_true rfl
theorem c_inI {bx : Bx} {T : Bool → Prop} (hb : Bc W X bx) {ns : List Int} {j : Int} (t : T (decide (j ∈ ns))) : Cmp X .In (.int j) (.lst (ns.map .int)) T :=
  c_inL hb (n := 0) (m := 1) trivial (sh_ints ns) (by rw [any_int]; exact t)
theorem rank_in {ps : List PI} {j : Int} (h : j ∈ ps.map (·.2)) : rankV ps j = .int ((ps.map (·.2)).idxOf j : Nat) := by
  have e : ps.findIdx? (fun p => decide (p.2 = j)) = some ((ps.map (·.2)).idxOf j) := by
    have h2 : (ps.map (·.2)).findIdx? (fun x => x == j) = some ((ps.map (·.2)).idxOf j) := List.findIdx?_eq_some_of_exists ⟨j, h, by simp⟩
    rw [List.findIdx?_map] at h2
    rw [← h2]
    congr 1
  unfold rankV
  rw [e]
theorem rank_out {ps : List PI} {j : Int} (h : j ∉ ps.map (·.2)) : rankV ps j = .non := by
  have e : ps.findIdx? (fun p => decide (p.2 = j)) = none := by
    rw [List.findIdx?_eq_none_iff]
    intro p hp
    refine decide_eq_false fun z => h ?_
    exact List.mem_map.mpr ⟨p, hp, z⟩
  unfold rankV
  rw [e]
/-- what the law knows of its items -/
structure LI (its : List Item) : Prop where
  keyed : Keyed its
  pos : 0 < its.length
  len : its.length ≤ 400
  key : ∀ it ∈ its, 0 ≤ it.1 ∧ it.1 < 999999937
def S_answers : Sg := fun ds R => ∃ (its : List Item) (s : Sv) (v : List Int) (kd : Str), ds = [.lst (its.map dIt), dSt its, dSv s, dV v, .str kd] ∧ LI its ∧ s.dep ≤ 4 ∧ GV v its ∧ v.length ≤ 8 ∧ KD kd ∧ R (.val (.bl true))
theorem b_answers (tx : Tx W) (hb : Bc W X ⟨k + 11, n__law_answers_right, defScope s__law_answers_right, fun _ => true⟩) (ho : Own X) (ds : List D) (R : O → Prop) (_ : ds.length = 5) (h : S_answers ds R) :
    WSs X (defBody s__law_answers_right) (begin0 n__law_answers_right 6 (.bor IH :: ds.map Slot.v)) { nx := fun _ => R (.val .non), rt := R } := by
  have g1 := tx.g_tuple
  have g2 := tx.g_sorted
  have g3 := tx.g_len
  have g4 := tx.g_max
  obtain ⟨its, s, v, kd, rfl, li, hs, gv, hv, hk, r⟩ := h
  have sp := prsL_sp li.keyed (fun it hit => (li.key it hit).1) kd v s
  have pl := prsL_len kd v s its
  have hlen := li.len
  have G : Good its v s := ⟨li.keyed, by omega, hs, by omega, gv.1, fun it hit => (gv.2.2.2 it hit).1⟩
  have prsE := prs_law li.keyed kd v s
  have sm : ∀ p ∈ prsL kd v s its, p.2 < 999999937 := fun p hp => by
    obtain ⟨it, hit, rfl⟩ := prsL_mem hp
    exact (li.key it hit).2
  have keysE := keys_law kd v s its
  refine wss_cons <| ws_set hb 6 <| PP.po <| pp_call hb tx.calm (f_pairsL tx) (pl4 <| pp_nm hb rfl <| pp_nm hb rfl <| pp_nm hb rfl <| pp_nm hb rfl ⟨rfl, kd, v, s, its, rfl, hk, hs, by omega, gv, ?_⟩) (by show 6 ≤ k + 11; omega)
  have far : ∀ p ∈ prsL kd v s its, p.1.natAbs < 10 ^ 30 := fun p hp => by
    obtain ⟨it, hit, rfl⟩ := prsL_mem hp
    exact dist_lt kd gv.1 (gv.2.2.2 it hit).1 (by omega)
  generalize prsL kd v s its = ps at sp pl prsE keysE sm far
  have small : ∀ p ∈ ps, p.1.natAbs < 10 ^ 30 ∧ p.2.natAbs < 10 ^ 30 := fun p hp => by
    have a1 := sm p hp
    have a2 := (sp.pos p hp).2
    exact ⟨far p hp, by omega⟩
  refine wss_cons <| ws_all (ws_setLc hb tx.calm [("pair", 8)] 7 (pit_any <| pit_lst <| pp_nm hb rfl ⟨_, rfl, ?_⟩)) (fun _ _ _ => trivial)
  refine lc_mapB dPr (fun p => .int p.2) (szN (by omega)) ?_ fun p hp => ⟨_, fun X' hb' => pgd_name hb' 8 (by simp) rfl, fun X' hb' => pp_nt hb' rfl atI1 rfl⟩
  have e1 : (ps.map fun p => D.int p.2) = (ps.map (·.2)).map D.int := by rw [List.map_map]; rfl
  rw [e1]
  refine wss_frz 7 rfl ?_
  rw [toD_ls]
  have saK : Sa (.tup (((ps.map (·.2)).mergeSort leI).map .int)) := by
    refine sa_of (n := 1) (w := 400 * (31 + 2) + 3) ⟨31, fun d hd => ?_, ?_⟩ (by decide) (by decide)
    · obtain ⟨j, hj, rfl⟩ := List.mem_map.mp hd
      obtain ⟨p, hp, rfl⟩ := List.mem_map.mp (List.mem_mergeSort.mp hj)
      have a1 := sm p hp
      have a2 := (sp.pos p hp).2
      exact ⟨by omega, Nat.le_refl _⟩
    · rw [List.length_map, List.length_mergeSort, List.length_map]
      omega
  refine wss_cons <| ws_if <| pb_same tx hb (pp_call hb tx.calm (f_passing_keys tx) (pl2 <| pp_nm hb rfl <| pp_nm hb rfl ⟨rfl, its, s, rfl, by omega, hs, pp_ty hb (id := "tuple") <| pl1 <| pp_cl hb (id := "sorted") <| pl1 <| pp_nm hb rfl <| l_sortJ hb <| l_tuple ⟨?_, ?_, iFF <| wss_nil ?_⟩⟩) (by show 8 ≤ k + 11; omega)) (by show 1 ≤ k + 11; omega)
  · show D.tup _ = D.tup _
    rw [keysE]
  · show Sa (.tup (((keysOf its s).mergeSort leI).map .int))
    rw [keysE]
    exact saK
  let Γ0 : List Dn.Slot := [.bor IH, .v (.lst (its.map dIt)), .v (dSt its), .v (dSv s), .v (dV v), .v (.str kd), .v (.lst (ps.map dPr)), .v (.lst ((ps.map (·.2)).map .int)), .no, .no, .no, .no, .no, .no, .no]
  refine wss_cut (fun Γ' => Γ' = Γ0) (ws_for hb ho <| pit_lst <| PO.pp <| po_lst <| pl2 <| pp_callB hb tx.calm 0 (f_pick tx) rfl (pl1 <| PO.pp <| po_lst <| pl_cons <| pp_int <| pl_cons <| pp_int <| pl_cons <| pp_cl hb (id := "max") <| pl2 <| pp_int <| pp_cl hb (id := "len") <| pl1 <| pp_nm hb rfl <| l_len <| i_max2 hb <| pl_cons <| pp_int <| pl_cons <| pp_int <| pl_nil ⟨szN (by simp), rfl, [.int 1, .int 400, .int (if ((ps.map dPr).length : Int) > 1 then ((ps.map dPr).length : Int) else 1), .int 2, .int 17], rfl, by simp, by simp, fun d hd => ?_⟩) (by show 2 ≤ k + 11; omega)) fun Γ' h => ?_
  · obtain ⟨m1, rfl, a0, a1⟩ : ∃ m : Nat, d = .int m ∧ 1 ≤ m ∧ m ≤ 400 := by
      simp only [List.mem_cons, List.not_mem_nil, or_false, List.length_map] at hd
      rcases hd with rfl | rfl | rfl | rfl | rfl
      · exact ⟨1, rfl, by decide, by decide⟩
      · exact ⟨400, rfl, by decide, by decide⟩
      · split
        · exact ⟨ps.length, rfl, by omega, by omega⟩
        · exact ⟨1, rfl, by decide, by decide⟩
      · exact ⟨2, rfl, by decide, by decide⟩
      · exact ⟨17, rfl, by decide, by decide⟩
    refine pp_op <| pp_int <| pp_callB hb tx.calm 0 (f_draw tx) rfl (pl1 <| pp_int ⟨rfl, _, rfl, by decide, by decide, fun m2 b0 b1 => o_add ?_⟩) (by show 1 ≤ k + 11; omega)
    refine ⟨szN (by simp), _, rfl, fun i Γ' => Γ' = Γ0, rfl, fun Γ' h => h, fun i d Γ' hd h => ?_⟩
    subst h
    obtain ⟨m, rfl, m0, m400⟩ : ∃ m : Nat, d = .int m ∧ 1 ≤ m ∧ m ≤ 400 := by
      have hm := List.mem_of_getElem? hd
      have hm' : d = .int m1 ∨ d = .int (1 + m2) := by
        rcases List.mem_cons.mp hm with z | z
        · exact .inl z
        · rcases List.mem_cons.mp z with z | z
          · exact .inr z
          · cases z
      rcases hm' with rfl | rfl
      · exact ⟨m1, rfl, a0, a1⟩
      · obtain ⟨z, rfl⟩ := Int.eq_ofNat_of_zero_le b0
        exact ⟨1 + z, by simp, by omega, by omega⟩
    refine pgd_name hb 9 trivial ?_
    refine wss_cons <| ws_set hb 10 <| PP.po <| pp_tup <| pl4 <| pp_nm hb rfl <| pp_nm hb rfl <| pp_nm hb rfl <| pp_nm hb rfl ⟨szN (by simp), ?_⟩
    have l1 : 1 ≤ k + 11 := by omega
    have sub : ∀ n : Nat, Sa (.tup ((ps.take n).map dPr)) := fun n => sa_of (wtP (by simp; omega) fun p hp => small p (List.mem_of_mem_take hp)) (by decide) (by decide)
    refine wss_cons <| ws_if <| pb_same tx hb ?_ l1
    refine (pp_call hb tx.calm (f_nearest tx) (pl2 <| pp_nm hb rfl <| pp_nm hb rfl ⟨rfl, its, kd, v, m, s, rfl, G, pp_ty hb (id := "tuple") <| pl1 <| pp_slL <| pp_nm hb rfl ⟨_, rfl, pp_nm hb rfl ⟨(m : Int), rfl, l_tuple ⟨?_, ?_, iFF <| wss_nil ?_⟩⟩⟩⟩) (by show 10 ≤ k + 11; omega))
    · show D.tup _ = D.tup _
      rw [prsE, cutTo, List.map_take]
    · rw [prsE]
      exact sub m
    let Γ1 : List Dn.Slot := [.bor IH, .v (.lst (its.map dIt)), .v (dSt its), .v (dSv s), .v (dV v), .v (.str kd), .v (.lst (ps.map dPr)), .v (.lst ((ps.map (·.2)).map .int)), .no, .v (.int m), .v (dQ kd v m s), .no, .no, .no, .no]
    refine wss_cut (fun Γ' => Γ' = Γ1) (ws_if <| pb_same tx hb ?_ l1) fun Γ' h => ?_
    · refine pp_call hb tx.calm (f_reach_of tx) (pl2 <| pp_nm hb rfl <| pp_nm hb rfl ⟨rfl, its, kd, v, m, s, rfl, G, m0, ?_⟩) (by show 11 ≤ k + 11; omega)
      rw [prsE]
      refine pp_if <| pb_cmp <| rd_nm hb rfl <| PP.pr <| pp_cl hb (id := "len") <| pl1 <| pp_nm hb rfl <| l_len <| c_le <| iD (fun e => ?_) fun e => ?_
      · have hm : m - 1 < ps.length := by simp at e; omega
        have hq : ps[m - 1]? = some ps[m - 1] := List.getElem?_eq_getElem hm
        have er : reachV ps m = .int (ps[m - 1]).1 := by unfold reachV; rw [hq]
        refine pp_ti <| pp_ix <| pp_nm hb rfl <| pp_op <| pp_nm hb rfl <| pp_int <| o_sub <| ix_lst (d := dPr ps[m - 1]) ?_ ⟨_, _, rfl, atI0, er, ?_, iFF <| wss_nil rfl⟩
        · rw [show ((m : Int) - 1) = ((m - 1 : Nat) : Int) by omega]
          exact Dn.atI_nat (by rw [List.getElem?_map, hq]; rfl)
        · show Sa (reachV ps m)
          rw [er]
          exact .inr (.inl ⟨_, rfl, log_ok (far _ (List.getElem_mem hm))⟩)
      · have er : reachV ps m = .non := by
          unfold reachV
          rw [List.getElem?_eq_none (by simp at e; omega)]
        refine pp_non ⟨er, ?_, iFF <| wss_nil rfl⟩
        show Sa (reachV ps m)
        rw [er]
        exact .inl rfl
    subst h
    refine wss_cons <| ws_set hb 11 <| PP.po <| pp_ti <| pp_callB hb tx.calm 0 (f_pick tx) rfl (pl1 <| pp_nm hb rfl ⟨rfl, _, rfl, by simpa using li.pos, by simp; omega, fun d hd => ?_⟩) (by show 2 ≤ k + 11; omega)
    obtain ⟨it, hit, rfl⟩ := List.mem_map.mp hd
    refine ⟨_, _, rfl, atI0, ?_⟩
    let Γ2 : List Dn.Slot := [.bor IH, .v (.lst (its.map dIt)), .v (dSt its), .v (dSv s), .v (dV v), .v (.str kd), .v (.lst (ps.map dPr)), .v (.lst ((ps.map (·.2)).map .int)), .no, .v (.int m), .v (dQ kd v m s), .v (.int it.1), .no, .no, .no]
    refine wss_cut (fun Γ' => Γ' = Γ2) (ws_if <| pb_same tx hb ?_ l1) fun Γ' h => ?_
    · refine pp_call hb tx.calm (f_rank_of tx) (pl3 <| pp_nm hb rfl <| pp_nm hb rfl <| pp_nm hb rfl ⟨rfl, its, kd, v, m, s, it.1, rfl, G, ?_⟩) (by show 10 ≤ k + 11; omega)
      rw [prsE]
      refine pp_if <| pb_cmp <| rd_nm hb rfl <| rd_nm hb rfl <| c_inI hb <| iD (fun e => ?_) fun e => ?_
      · refine pp_index hb <| pp_nm hb rfl ⟨_, rfl, pp_nm hb rfl ⟨it.1, rfl, e, rank_in e, ?_, iFF <| wss_nil rfl⟩⟩
        show Sa (rankV ps it.1)
        rw [rank_in e]
        refine .inr (.inl ⟨_, rfl, log_ok ?_⟩)
        have h1 : (ps.map (·.2)).idxOf it.1 < (ps.map (·.2)).length := List.idxOf_lt_length_iff.mpr e
        rw [List.length_map] at h1
        have h2 : ps.length ≤ 400 := by omega
        exact Nat.lt_of_lt_of_le h1 (Nat.le_trans h2 (by decide))
      · refine pp_non ⟨rank_out e, ?_, iFF <| wss_nil rfl⟩
        show Sa (rankV ps it.1)
        rw [rank_out e]
        exact .inl rfl
    subst h
    refine wss_cons <| ws_asg <| pp_callB hb tx.calm 0 (f_spoilt tx) rfl (pl2 <| pp_nm hb rfl <| pp_nm hb rfl ⟨rfl, ps, m, rfl, m0, m400, by omega, sp, fun p hp => by have := sm p hp; omega, fun ads due fo => ?_⟩) (by show 3 ≤ k + 11; omega)
    refine pgd_tup hb <| pgs_cons <| pgd_name hb 12 trivial <| pgs_cons <| pgd_name hb 13 trivial <| pgs_nil ?_
    refine wss_cons <| ws_if <| pb_same tx hb ?_ l1
    refine pp_call hb tx.calm (f_answer_fault tx) (pl3 <| pp_nm hb rfl <| pp_nm hb rfl <| pp_ty hb (id := "tuple") <| pl1 <| pp_nm hb rfl <| l_tuple ⟨rfl, its, kd, v, m, s, ads, rfl, G, fo.len, fo.row, ?_⟩) (by show 10 ≤ k + 11; omega)
    rw [prsE]
    rcases fo.ans with ⟨i, d, q1, q2, q3, rfl⟩ | ⟨qs, q1, q2, rfl⟩
    · exact .inl ⟨i, d, q1, q2, q3, pp_nm hb rfl ⟨rfl, due_sa fo.dok, iFF <| wss_nil <| wss_end [9, 10, 11, 12, 13] rfl⟩⟩
    · exact .inr ⟨qs, q1, q2, pp_nm hb rfl ⟨rfl, due_sa fo.dok, iFF <| wss_nil <| wss_end [9, 10, 11, 12, 13] rfl⟩⟩
  subst h
  have l1 : 1 ≤ k + 11 := by omega
  have mem5 : ∀ d : D, d ∈ ([.int 0, .int 0, .int (0 - 1), .int 1, .int 1000000000] : List D) → ∃ j : Int, d = .int j := fun d hd => by
    simp only [List.mem_cons, List.not_mem_nil, or_false] at hd
    rcases hd with rfl | rfl | rfl | rfl | rfl <;> exact ⟨_, rfl⟩
  refine wss_cut (fun Γ' => ∃ reach : Int, Γ' = [.bor IH, .v (.lst (its.map dIt)), .v (dSt its), .v (dSv s), .v (dV v), .v (.str kd), .v (.lst (ps.map dPr)), .v (.lst ((ps.map (·.2)).map .int)), .no, .no, .no, .no, .no, .no, .v (.int reach)]) (ws_setC hb 14 <| PP.po <| pp_op <| PP.imp (P := fun d => ∃ j : Int, d = .int j) (pp_if <| pb_cmp <| rd_nm hb rfl <| PO.pr <| po_lst <| pl_nil ⟨Nat.zero_le _, c_nev hb (n := 2) (m := 1) (sh_pairs ps) (fun _ z => nomatch z) ?_⟩) fun d hd => ?_) fun Γ' h => ?_
  · rw [ne_pairs]
    refine iD (fun e => ?_) fun e => pp_int ⟨_, rfl⟩
    refine pp_ti <| pp_callB hb tx.calm 0 (f_pick tx) rfl (pl1 <| pp_nm hb rfl ⟨rfl, _, rfl, ?_, by simp; omega, fun d hd => ?_⟩) (by show 2 ≤ k + 11; omega)
    · rw [List.length_map]
      exact List.length_pos_iff.mpr e
    · obtain ⟨p, hp, rfl⟩ := List.mem_map.mp hd
      exact ⟨_, _, rfl, atI0, _, rfl⟩
  · obtain ⟨j, rfl⟩ := hd
    refine pp_callB hb tx.calm 0 (f_pick tx) rfl (pl1 <| PO.pp <| po_lst <| pl_cons <| pp_int <| pl_cons <| pp_int <| pl_cons <| pp_op <| pp_int <| pp_int <| o_sub <| pl_cons <| pp_int <| pl_cons <| pp_op <| pp_int <| pp_int <| o_pow ?_ <| pl_nil ⟨szN (by simp), rfl, [.int 0, .int 0, .int (0 - 1), .int 1, .int 1000000000], rfl, by simp, by simp, fun d hd => ?_⟩) (by show 2 ≤ k + 11; omega)
    · exact ⟨by decide, by decide, by decide⟩
    · obtain ⟨j2, rfl⟩ := mem5 d hd
      exact o_add ⟨_, rfl⟩
  obtain ⟨reach, rfl⟩ := h
  refine wss_cons <| ws_set hb 13 <| PP.po <| pp_ty hb (id := "tuple") <| pl1 <| pp_lc hb tx.calm [("pair", 8)] <| pit_lst <| pp_nm hb rfl ⟨_, rfl, ?_⟩
  refine lp_filterB dPr (fun p => decide (p.1 ≤ reach)) dPr (szN (by omega)) (l_tuple ?_) fun p hp => ⟨_, fun X' hb' => pgd_name hb' 8 (by simp) rfl, fun X' hb' => ?_, fun _ X' hb' => pp_nm hb' rfl rfl⟩
  · let qs := ps.filter fun p => decide (p.1 ≤ reach)
    have hql : qs.length ≤ 400 := Nat.le_trans (List.length_filter_le _ _) (by omega)
    refine wss_cons <| ws_retP <| pp_call hb tx.calm (f_same tx) (pl2 <| pp_tup <| pl2 (pp_call hb tx.calm (f_within tx) (pl_cons <| pp_nm hb rfl <| pl4 <| pp_nm hb rfl <| pp_nm hb rfl <| pp_nm hb rfl <| pp_nm hb rfl ⟨rfl, its, kd, v, reach, s, rfl, G, ?_⟩) (by show 10 ≤ k + 11; omega))) (by show 1 ≤ k + 11; omega)
    rw [prsE]
    refine pp_call hb tx.calm (f_count_within tx) (pl_cons <| pp_nm hb rfl <| pl4 <| pp_nm hb rfl <| pp_nm hb rfl <| pp_nm hb rfl <| pp_nm hb rfl ⟨rfl, its, kd, v, reach, s, rfl, G, ?_⟩) (by show 11 ≤ k + 11; omega)
    rw [prsE]
    refine ⟨szN (by simp), pp_tup <| pl2 <| pp_nm hb rfl <| pp_cl hb (id := "len") <| pl1 <| pp_nm hb rfl <| t_len ⟨szN (by simp), rfl, .tup [.tup (qs.map dPr), .int qs.length], ?_, ?_, r⟩⟩
    · rw [List.length_map]
      rfl
    · refine sa_of (n := 3) (w := 2 * (30000 + 2) + 3) ⟨30000, fun d hd => ?_, by simp⟩ (by decide) (by decide)
      have hd' : d = .tup (qs.map dPr) ∨ d = .int qs.length := by simpa using hd
      rcases hd' with rfl | rfl
      · exact wtP hql fun p hp => small p (List.mem_filter.mp hp).1
      · exact ⟨Nat.lt_of_le_of_lt hql (by decide), by decide⟩
  · exact pb_leI <| pp_nt hb' rfl atI0 ⟨_, rfl, pp_nm hb' rfl ⟨_, rfl, rfl⟩⟩
theorem f_answers (tx : Tx W) : Df W 12 "_law_answers_right" (spB W.K IH 5 S_answers) := d__law_answers_right (fun f fd F m bn => Df.mkB tx.calm F m c__law_answers_right rfl bn fun X hb ho ds R hl h => b_answers (k := 0) tx hb ho ds R hl h) tx.F__law_answers_right
end T

/-! K84z: deeds: the plain laws. -/
namespace T
open PySem PySem.Spec L2 RZ Dn
/-- what one of the law's deeds leaves -/
def aft (st : List Item) : Deed → List Item
  | .take j => st.filter fun x => decide (x.1 ≠ j)
  | .put it => addS st it
def aftAll (st : List Item) (ds : List Deed) : List Item := ds.foldl aft st
theorem aftAll_snoc (st : List Item) (ds : List Deed) (d : Deed) : aftAll st (ds ++ [d]) = aft (aftAll st ds) d := by
  unfold aftAll
  rw [List.foldl_append]
  rfl
theorem map_same {st : List Item} {it : Item} (h : ∀ x ∈ st, x.1 ≠ it.1) : (st.map fun x => if x.1 = it.1 then it else x) = st := by
  conv => rhs; rw [← List.map_id st]
  exact List.map_congr_left fun x hx => if_neg (h x hx)
theorem filter_same {st : List Item} {j : Int} (h : ∀ x ∈ st, x.1 ≠ j) : (st.filter fun x => decide (x.1 ≠ j)) = st := by
  rw [List.filter_eq_self]
  intro x hx
  exact decide_eq_true (h x hx)
theorem put_perm {it : Item} : ∀ {st : List Item}, Keyed st → (∃ x ∈ st, x.1 = it.1) → (st.map fun x => if x.1 = it.1 then it else x).Perm ((st.filter fun x => decide (x.1 ≠ it.1)) ++ [it])
  | [], _, ⟨x, hx, _⟩ => by cases hx
  | y :: st, hk, h => by
    obtain ⟨k1, k2⟩ := List.nodup_cons.mp hk
    by_cases e : y.1 = it.1
    · have n : ∀ x ∈ st, x.1 ≠ it.1 := fun x hx z => k1 (List.mem_map.mpr ⟨x, hx, z.trans e.symm⟩)
      rw [List.map_cons, if_pos e, map_same n, List.filter_cons_of_neg (by simp [e]), filter_same n]
      exact (List.perm_append_singleton it st).symm
    · rw [List.map_cons, if_neg e, List.filter_cons_of_pos (by simpa using e), List.cons_append]
      refine List.Perm.cons y (put_perm k2 ?_)
      obtain ⟨x, hx, ex⟩ := h
      rcases List.mem_cons.mp hx with rfl | hx
      · exact absurd ex e
      · exact ⟨x, hx, ex⟩
theorem addS_perm {st : List Item} (hk : Keyed st) (it : Item) : (addS st it).Perm ((st.filter fun x => decide (x.1 ≠ it.1)) ++ [it]) := by
  by_cases h : ∃ x ∈ st, x.1 = it.1
  · unfold addS
    rw [if_pos (by
      obtain ⟨x, hx, e⟩ := h
      exact List.any_eq_true.mpr ⟨x, hx, decide_eq_true e⟩)]
    exact put_perm hk h
  · have n : ∀ x ∈ st, x.1 ≠ it.1 := fun x hx z => h ⟨x, hx, z⟩
    rw [addS_new n, filter_same n]
theorem aft_perm {st st' : List Item} (hk : Keyed st') (p : st.Perm st') (d : Deed) : (doneS st d).Perm (aft st' d) := by
  cases d with
  | take j => exact p.filter _
  | put it => exact ((p.filter _).append_right [it]).trans (addS_perm hk it).symm
theorem keyed_perm {st st' : List Item} (p : st.Perm st') (h : Keyed st) : Keyed st' := (p.map (fun it : Item => it.1)).nodup_iff.mp h
theorem aft_keyed {st : List Item} (h : Keyed st) (d : Deed) : Keyed (aft st d) := keyed_perm (aft_perm h (.refl _) d) (doneS_keyed h d)
theorem aftAll_ok {its : List Item} (h : Keyed its) (ds : List Deed) : Keyed (aftAll its ds) ∧ (doneAll its ds).Perm (aftAll its ds) := by
  have : ∀ (ds : List Deed) (st st' : List Item), Keyed st' → st.Perm st' → Keyed (ds.foldl aft st') ∧ (ds.foldl doneS st).Perm (ds.foldl aft st') := by
    intro ds
    induction ds with
    | nil => exact fun st st' h p => ⟨h, p⟩
    | cons d ds ih => exact fun st st' h p => ih _ _ (aft_keyed h d) (aft_perm h p d)
  exact this ds its its h (.refl _)
theorem aftAll_len {its : List Item} (h : Keyed its) (ds : List Deed) : (aftAll its ds).length ≤ its.length + ds.length := by
  rw [← (aftAll_ok h ds).2.length_eq]
  exact (doneAll_ok h ds).2
/-- where an item of the state comes from -/
theorem aft_from {st : List Item} (h : Keyed st) {d : Deed} {it : Item} (hm : it ∈ aft st d) : it ∈ st ∨ d = .put it := by
  cases d with
  | take j => exact .inl (List.mem_filter.mp hm).1
  | put it' =>
    have := (addS_perm h it').mem_iff.mp hm
    rcases List.mem_append.mp this with z | z
    · exact .inl (List.mem_filter.mp z).1
    · have e : it = it' := by simpa using z
      exact .inr (by rw [e])
theorem aftAll_from {its : List Item} (h : Keyed its) {it : Item} : ∀ {ds : List Deed}, it ∈ aftAll its ds → it ∈ its ∨ Deed.put it ∈ ds := by
  have : ∀ (ds : List Deed) (st : List Item), Keyed st → it ∈ ds.foldl aft st → it ∈ st ∨ Deed.put it ∈ ds := by
    intro ds
    induction ds with
    | nil => exact fun st _ hm => .inl hm
    | cons d ds ih =>
      intro st hk hm
      rcases ih _ (aft_keyed hk d) hm with z | z
      · rcases aft_from hk z with w | w
        · exact .inl w
        · exact .inr (by rw [w]; exact List.mem_cons_self)
      · exact .inr (List.mem_cons_of_mem _ z)
  exact fun {ds} => this ds its h
/-! ### small items -/
structure WI (it : Item) : Prop where
  key : it.1.natAbs < 10 ^ 30
  vec : Wt 2 (dV it.2.1) 1400
  lbs : Wt 2 (dLb it.2.2) 1400
theorem WI.wt {it : Item} (h : WI it) : Wt 3 (dIt it) 4209 := by
  refine ⟨1400, fun d hd => ?_, by simp⟩
  have hd' : d = .int it.1 ∨ d = dV it.2.1 ∨ d = dLb it.2.2 := by simpa using hd
  rcases hd' with rfl | rfl | rfl
  · exact ⟨h.key, by decide⟩
  · exact h.vec
  · exact h.lbs
def GD : Deed → Prop
  | .put it => WI it
  | .take k => k.natAbs < 10 ^ 30
theorem wt_put {d : D} (h : Wt 3 d 4209) : Wt 4 (.tup [.str "put", d]) 8425 := by
  refine ⟨4209, fun e he => ?_, by simp⟩
  have he' : e = .str "put" ∨ e = d := by simpa using he
  rcases he' with rfl | rfl
  · show PyData.strOk "put" = true ∧ _ ≤ 4209
    decide +kernel
  · exact h
theorem wt_take {j : Int} (h : j.natAbs < 10 ^ 30) : Wt 4 (.tup [.str "take", .int j]) 8425 := by
  refine ⟨4209, fun e he => ?_, by simp⟩
  have he' : e = .str "take" ∨ e = .int j := by simpa using he
  rcases he' with rfl | rfl
  · show PyData.strOk "take" = true ∧ _ ≤ 4209
    decide +kernel
  · exact ⟨h, by decide⟩
theorem GD.wt : ∀ {d : Deed}, GD d → Wt 4 (dDe d) 8425
  | .put _, h => wt_put (WI.wt h)
  | .take _, h => wt_take h
/-- the same things in two dicts -/
theorem same_perm {st st' : List Item} (hk : Keyed st') (p : st.Perm st') (hw : ∀ it ∈ st, WI it) : SameD 3 (enS st) (enS st') := by
  refine ⟨by simp [p.length_eq], fun kv hkv => ?_⟩
  obtain ⟨it, hit, rfl⟩ := List.mem_map.mp hkv
  exact ⟨enS_some hk (p.mem_iff.mp hit), (wt_sh 3 _ _ (hw it hit).wt).1, (wt_sh 3 _ _ (hw it hit).wt).2⟩
/-! ### the last deeds -/
theorem put_ks (kvs : List (Key × D)) (i : Int) (v : D) (j : Int) : j ∈ ksD (dPut kvs (.inl i) v) ↔ j ∈ ksD kvs ∨ j = i := by
  unfold dPut
  split
  · rename_i h
    have e : ksD (kvs.map fun kv => if kv.1 = .inl i then (kv.1, v) else kv) = ksD kvs := by
      unfold ksD
      rw [List.map_map]
      refine List.map_congr_left fun kv _ => ?_
      by_cases q : kv.1 = .inl i
      · simp [q]
      · simp [q]
    rw [e]
    constructor
    · exact .inl
    · rintro (z | rfl)
      · exact z
      · obtain ⟨kv, hkv, q⟩ := List.any_eq_true.mp h
        unfold ksD
        exact List.mem_map.mpr ⟨kv, hkv, by rw [of_decide_eq_true q]⟩
  · unfold ksD
    simp
theorem lastD_ks (ds : List Deed) (j : Int) : j ∈ ksD (lastD ds) ↔ ∃ d ∈ ds, d.key = j := by
  have : ∀ (ds : List Deed) (acc : List (Key × D)), j ∈ ksD (ds.foldl (fun acc d => dPut acc (.inl d.key) (dDe d)) acc) ↔ j ∈ ksD acc ∨ ∃ d ∈ ds, d.key = j := by
    intro ds
    induction ds with
    | nil => intro acc; simp
    | cons d ds ih =>
      intro acc
      rw [List.foldl_cons, ih, put_ks]
      constructor
      · rintro ((z | z) | ⟨e, he, z⟩)
        · exact .inl z
        · exact .inr ⟨d, List.mem_cons_self, z.symm⟩
        · exact .inr ⟨e, List.mem_cons_of_mem _ he, z⟩
      · rintro (z | ⟨e, he, z⟩)
        · exact .inl (.inl z)
        · rcases List.mem_cons.mp he with rfl | he
          · exact .inl (.inr z.symm)
          · exact .inr ⟨e, he, z⟩
  have := this ds []
  simpa [lastD, ksD] using this
theorem lastD_val (ds : List Deed) : ∀ kv ∈ lastD ds, ∃ d ∈ ds, kv.2 = dDe d := by
  have : ∀ (ds : List Deed) (acc : List (Key × D)), ∀ kv ∈ ds.foldl (fun acc d => dPut acc (.inl d.key) (dDe d)) acc, kv ∈ acc ∨ (∃ kv' ∈ acc, kv.2 = kv'.2) ∨ ∃ d ∈ ds, kv.2 = dDe d := by
    intro ds
    induction ds with
    | nil => exact fun acc kv h => .inl h
    | cons d ds ih =>
      intro acc kv h
      have put : ∀ kv ∈ dPut acc (.inl d.key) (dDe d), kv ∈ acc ∨ kv.2 = dDe d := by
        intro kv h
        unfold dPut at h
        split at h
        · obtain ⟨x, hx, rfl⟩ := List.mem_map.mp h
          split
          · exact .inr rfl
          · exact .inl hx
        · rcases List.mem_append.mp h with z | z
          · exact .inl z
          · have : kv = (.inl d.key, dDe d) := by simpa using z
            exact .inr (by rw [this])
      rcases ih _ kv h with z | ⟨kv', z, e⟩ | ⟨e, he, z⟩
      · rcases put kv z with w | w
        · exact .inl w
        · exact .inr (.inr ⟨d, List.mem_cons_self, w⟩)
      · rcases put kv' z with w | w
        · exact .inr (.inl ⟨kv', w, e⟩)
        · exact .inr (.inr ⟨d, List.mem_cons_self, e.trans w⟩)
      · exact .inr (.inr ⟨e, List.mem_cons_of_mem _ he, z⟩)
  intro kv h
  rcases this ds [] kv h with z | ⟨_, z, _⟩ | z
  · cases z
  · cases z
  · exact z
theorem lastD_len (ds : List Deed) : (lastD ds).length ≤ ds.length := by
  have : ∀ (ds : List Deed) (acc : List (Key × D)), (ds.foldl (fun acc d => dPut acc (.inl d.key) (dDe d)) acc).length ≤ acc.length + ds.length := by
    intro ds
    induction ds with
    | nil => intro acc; simp
    | cons d ds ih =>
      intro acc
      have := ih (dPut acc (.inl d.key) (dDe d))
      have := dPut_len acc (.inl d.key) (dDe d)
      simp only [List.foldl_cons, List.length_cons]
      omega
  simpa [lastD] using this ds []
theorem atKeys_wt {ds : List Deed} (h : ∀ d ∈ ds, GD d) : ∀ e ∈ atKeys (lastD ds), Wt 4 e 8425 := by
  intro e he
  obtain ⟨i, hi, rfl⟩ := List.mem_map.mp he
  obtain ⟨d, ed⟩ := Option.isSome_iff_exists.mp ((lastD_ik ds).mem.mp (List.mem_mergeSort.mp hi))
  rw [ed]
  unfold dGet at ed
  obtain ⟨kv, h1, rfl⟩ := Option.map_eq_some_iff.mp ed
  obtain ⟨d', hd', e'⟩ := lastD_val ds kv (List.mem_of_find?_eq_some h1)
  show Wt 4 kv.2 8425
  rw [e']
  exact (h d' hd').wt
/-! ### deeds between two states, over more keys -/
theorem flat_filter {f : Int → List D} {p : Int → Bool} : ∀ {l : List Int}, (∀ i ∈ l, p i = false → f i = []) → (l.filter p).flatMap f = l.flatMap f
  | [], _ => rfl
  | i :: l, h => by
    have ih := flat_filter (f := f) (p := p) (l := l) fun j hj => h j (List.mem_cons_of_mem _ hj)
    cases e : p i with
    | true => rw [List.filter_cons_of_pos e, List.flatMap_cons, List.flatMap_cons, ih]
    | false => rw [List.filter_cons_of_neg (by rw [e]; exact Bool.false_ne_true), List.flatMap_cons, h i List.mem_cons_self e, ih]; rfl
theorem flat_keys {f : Int → List D} {ks ls : List Int} (h1 : ks.Pairwise (· < ·)) (h2 : ls.Pairwise (· < ·)) (sub : ∀ i ∈ ks, i ∈ ls) (out : ∀ i ∈ ls, i ∉ ks → f i = []) : ks.flatMap f = ls.flatMap f := by
  rw [← flat_filter (p := fun i => decide (i ∈ ks)) (l := ls) fun i hi e => out i hi (of_decide_eq_false e)]
  congr 1
  have n1 : ks.Nodup := h1.imp fun h => Int.ne_of_lt h
  have n2 : ls.Nodup := h2.imp fun h => Int.ne_of_lt h
  refine perm_sorted_eq ((List.perm_ext_iff_of_nodup n1 (n2.filter _)).mpr fun i => ?_) (h1.imp fun h => Int.le_of_lt h) ((h2.imp fun h => Int.le_of_lt h).sublist List.filter_sublist)
  rw [List.mem_filter, decide_eq_true_eq]
  exact ⟨fun h => ⟨sub i h, h⟩, fun h => h.2⟩
theorem btw_out {one other : List (Key × D)} {i : Int} (h1 : IK one) (h2 : IK other) (n1 : i ∉ ksD one) (n2 : i ∉ ksD other) : btw one other i = [] := by
  have e1 : dGet one (.inl i) = none := by
    cases e : dGet one (.inl i) with
    | none => rfl
    | some d => exact absurd (h1.mem.mpr (by rw [e]; rfl)) n1
  have e2 : dGet other (.inl i) = none := by
    cases e : dGet other (.inl i) with
    | none => rfl
    | some d => exact absurd (h2.mem.mpr (by rw [e]; rfl)) n2
  unfold btw
  rw [e1, e2]
theorem enS_ik (st : List Item) : IK (enS st) := fun kv hkv => by
  obtain ⟨it, _, rfl⟩ := List.mem_map.mp hkv
  exact ⟨it.1, rfl⟩
theorem enS_ks (st : List Item) : ksD (enS st) = st.map (·.1) := by
  unfold ksD enS
  rw [List.map_map]
  rfl
theorem enS_val {st : List Item} {j : Int} {d : D} (h : dGet (enS st) (.inl j) = some d) : ∃ it ∈ st, d = dIt it ∧ it.1 = j := by
  unfold dGet at h
  obtain ⟨kv, h1, rfl⟩ := Option.map_eq_some_iff.mp h
  obtain ⟨it, hit, rfl⟩ := List.mem_map.mp (List.mem_of_find?_eq_some h1)
  have := List.find?_some h1
  refine ⟨it, hit, rfl, ?_⟩
  simpa using this
theorem btw_wt {st st' : List Item} (h : ∀ it ∈ st', WI it) {i : Int} (hi : i.natAbs < 10 ^ 30) : ∀ e ∈ btw (enS st) (enS st') i, Wt 4 e 8425 := by
  intro e he
  unfold btw at he
  split at he
  · have : e = .tup [.str "take", .int i] := by simpa using he
    rw [this]
    exact wt_take hi
  · rename_i d hd1 hd2
    have : e = .tup [.str "put", d] := by simpa using he
    rw [this]
    obtain ⟨it, hit, rfl, _⟩ := enS_val hd2
    exact wt_put (h it hit).wt
  · rename_i d0 d hd1 hd2
    split at he
    · cases he
    · have : e = .tup [.str "put", d] := by simpa using he
      rw [this]
      obtain ⟨it, hit, rfl, _⟩ := enS_val hd2
      exact wt_put (h it hit).wt
  · cases he
end T

/-! K84za: the deeds are right. -/
namespace T
open PySem PySem.Spec L2 RZ Dn
variable {W : Wd} {X : Cx} {k : Nat}
theorem sh_up : ∀ (n : Nat) (d : D), Sh n d → Sh (n + 1) d
  | n, .non, _ => trivial
  | n, .bl _, _ => trivial
  | n, .int _, _ => trivial
  | n, .str x, h => by cases n <;> exact h
  | n + 1, .tup ds, h => fun d hd => sh_up n d (h d hd)
  | n + 1, .lst ds, h => fun d hd => sh_up n d (h d hd)
  | 0, .tup ds, h => h.elim
  | 0, .lst ds, h => h.elim
  | 0, .dic _, h => h.elim
  | n + 1, .dic _, h => h.elim
  | 0, .scr _, h => h.elim
  | n + 1, .scr _, h => h.elim
theorem sh_le {n m : Nat} {d : D} (h : Sh n d) (l : n ≤ m) : Sh m d := by
  induction l with
  | refl => exact h
  | step _ ih => exact sh_up _ _ ih
theorem c_neW {bx : Bx} {Z : Bool → Prop} {n w : Nat} {d : D} (hb : Bc W X bx) (h : Wt n d w) (t : Z false) (hn : n ≤ 64 := by decide) : Cmp X .NotEq d d Z :=
  c_nev hb (wt_sh n d w h).1 (wt_sh n d w h).1 (by rw [(eqv_iff n _ _ (wt_sh n d w h).2 (wt_sh n d w h).2).mpr rfl]; exact t) hn hn
/-- what the deeds ask of the law's items -/
structure DI (its : List Item) : Prop where
  keyed : Keyed its
  pos : 0 < its.length
  len : its.length ≤ 400
  key : ∀ it ∈ its, 0 ≤ it.1 ∧ it.1 < 999999937
  small : ∀ it ∈ its, WI it
theorem drop_enS (st : List Item) (j : Int) : dDrop (enS st) (.inl j) = enS (st.filter fun x => decide (x.1 ≠ j)) := by
  unfold dDrop enS
  rw [List.filter_map]
  congr 1
  refine List.filter_congr fun x _ => ?_
  simp
theorem doneAll_puts {its : List Item} (h : Keyed its) : doneAll [] (its.map Deed.put) = its := by
  have : ∀ (its acc : List Item), Keyed (acc ++ its) → doneAll acc (its.map Deed.put) = acc ++ its := by
    intro its
    induction its with
    | nil => intro acc _; simp [doneAll]
    | cons it its ih =>
      intro acc h
      have e : acc ++ it :: its = (acc ++ [it]) ++ its := by simp
      have n : ∀ x ∈ acc, x.1 ≠ it.1 := by
        intro x hx z
        have h' : (acc.map (·.1) ++ (it :: its).map (·.1)).Nodup := by rw [← List.map_append]; exact h
        exact (List.nodup_append.mp h').2.2 x.1 (List.mem_map.mpr ⟨x, hx, rfl⟩) it.1 (by simp) z
      show doneAll (doneS acc (.put it)) (its.map Deed.put) = _
      have e2 : doneS acc (.put it) = acc ++ [it] := by
        show (acc.filter fun x => decide (x.1 ≠ it.1)) ++ [it] = _
        rw [filter_same n]
      rw [e2, ih (acc ++ [it]) (e ▸ h), ← e]
  exact this its [] h
def S_deeds : Sg := fun ds R => ∃ its : List Item, ds = [.lst (its.map dIt), dSt its] ∧ DI its ∧ R (.val (.bl true))
theorem b_deeds (tx : Tx W) (hb : Bc W X ⟨k + 3, n__law_deeds_right, defScope s__law_deeds_right, fun _ => true⟩) (ho : Own X) (ds : List D) (R : O → Prop) (_ : ds.length = 2) (h : S_deeds ds R) :
    WSs X (defBody s__law_deeds_right) (begin0 n__law_deeds_right 3 (.bor IH :: ds.map Slot.v)) { nx := fun _ => R (.val .non), rt := R } := by
  have g1 := tx.g_tuple
  have g2 := tx.g_sorted
  have g3 := tx.g_len
  have g4 := tx.g_dict
  have g5 := tx.g_int
  have g6 := tx.g_range
  have g7 := tx.g_set
  have g8 := tx.g_list
  obtain ⟨its, rfl, di, r⟩ := h
  have hlen := di.len
  have hpos := di.pos
  have d1 : 1 ≤ k + 3 := by omega
  have d2 : 2 ≤ k + 3 := by omega
  have d3 : 3 ≤ k + 3 := by omega
  refine wss_cons <| ws_par hb 3 4 <| plo_cons <| po_lc hb tx.calm [("item", 5)] <| pit_lst <| pp_nm hb rfl ⟨_, rfl, ?_⟩
  refine lc_mapB dIt (fun it => .int it.1) (szN (by omega)) ?_ fun it hit => ⟨_, fun X' hb' => pgd_name hb' 5 (by simp) rfl, fun X' hb' => pp_nt hb' rfl atI0 rfl⟩
  have e1 : (its.map fun it => D.int it.1) = (its.map (·.1)).map D.int := by rw [List.map_map]; rfl
  rw [e1]
  refine plo_cons <| PP.po <| pp_callB hb tx.calm 0 (f_pick tx) rfl (pl1 <| PO.pp <| po_lst <| pl_cons <| pp_int <| pl_cons <| pp_int <| pl_cons <| pp_int <| pl_nil ⟨szN (by simp), rfl, [.int 1, .int 40, .int 400], rfl, by decide, by decide, fun d hd => ?_⟩) d2
  obtain ⟨many, rfl, m0, m1⟩ : ∃ m : Nat, d = .int m ∧ 1 ≤ m ∧ m ≤ 400 := by
    simp only [List.mem_cons, List.not_mem_nil, or_false] at hd
    rcases hd with rfl | rfl | rfl
    · exact ⟨1, rfl, by decide, by decide⟩
    · exact ⟨40, rfl, by decide, by decide⟩
    · exact ⟨400, rfl, by decide, by decide⟩
  refine plo_nil ⟨_, _, rfl, ?_⟩
  refine wss_frz 3 rfl ?_
  rw [toD_ls]
  refine wss_cons <| ws_par hb 6 7 <| plo_cons <| PP.po <| pp_op <| pp_int <| pp_callB hb tx.calm 0 (f_draw tx) rfl (pl1 <| pp_cl hb (id := "len") <| pl1 <| pp_nm hb rfl <| l_len ⟨rfl, _, rfl, by simpa using hpos, by simp; omega, fun p p0 p1 => o_add <| plo_cons <| PP.po <| pp_op <| pp_int <| pp_callB hb tx.calm 0 (f_draw tx) rfl (pl1 <| pp_int ⟨rfl, _, rfl, by decide, by decide, fun t t0 t1 => o_add <| plo_nil ⟨_, _, rfl, ?_⟩⟩) d1⟩) d1
  rw [List.length_map, List.length_map] at p1
  refine wss_cons <| ws_par hb 8 9 <| plo_cons <| PP.po <| pp_callB hb tx.calm 0 (f_draw tx) rfl (pl1 <| pp_int ⟨rfl, _, rfl, by decide, by decide, fun sh sh0 sh1 => plo_cons <| PP.po <| pp_callB hb tx.calm 0 (f_draw tx) rfl (pl1 <| pp_int ⟨rfl, _, rfl, by decide, by decide, fun f f0 f1 => plo_nil ⟨_, _, rfl, ?_⟩⟩) d1⟩) d1
  refine wss_cons <| ws_parT3 hb 10 11 12 <| plo_cons <| po_lst <| pl_nil ⟨Nat.zero_le _, plo_cons <| po_dcopy hb <| pp_nm hb rfl ⟨_, rfl, plo_cons <| po_dnew <| plo_nil ⟨_, _, _, rfl, ?_⟩⟩⟩
  let G : List Deed → List Dn.Slot := fun ds => [.bor IH, .v (.lst (its.map dIt)), .v (dSt its), .v (.lst ((its.map (·.1)).map .int)), .v (.int many), .no, .v (.int (1 + p)), .v (.int (1 + t)), .v (.int sh), .v (.int f), .own (O.ls (ds.map dDe)), .own (O.dc (enS (aftAll its ds))), .own (O.dc (lastD ds)), .no, .no, .no, .no, .no, .no]
  refine wss_cut (fun Γ' => ∃ ds : List Deed, Γ' = G ds ∧ ds.length = many ∧ ∀ d ∈ ds, GD d) (ws_for hb ho <| pit_rng1 hb <| pl1 <| pp_nm hb rfl ⟨many, rfl, by omega, by omega, fun i Γ' => ∃ ds : List Deed, Γ' = G ds ∧ ds.length = i ∧ ∀ d ∈ ds, GD d, ⟨[], rfl, rfl, fun d hd => by cases hd⟩, fun Γ' h => ?_, fun i d Γ' hd h => ?_⟩) fun Γ' h => ?_
  · rw [rngD_len] at h
    simpa using h
  · obtain ⟨hi, rfl⟩ := rngD_get hd
    have hi' : i < many := by simpa using hi
    obtain ⟨ds, rfl, dl, dg⟩ := h
    have tp0 := Int.emod_nonneg ((1 + t) * (i : Int) + f) (b := 1 + p) (by omega)
    have tp1 := Int.emod_lt_of_pos ((1 + t) * (i : Int) + f) (b := 1 + p) (by omega)
    have ip0 := Int.emod_nonneg (7 * (i : Int) + f) (b := (its.length : Int)) (by omega)
    have ip1 := Int.emod_lt_of_pos (7 * (i : Int) + f) (b := (its.length : Int)) (by omega)
    obtain ⟨it0, q0⟩ : ∃ x, its[(((1 + t) * (i : Int) + f) % (1 + p)).toNat]? = some x := ⟨_, List.getElem?_eq_getElem (by omega)⟩
    obtain ⟨it1, q1⟩ : ∃ x, its[((7 * (i : Int) + f) % (its.length : Int)).toNat]? = some x := ⟨_, List.getElem?_eq_getElem (by omega)⟩
    have m0' := di.key it0 (List.mem_of_getElem? q0)
    have w1 := di.small it1 (List.mem_of_getElem? q1)
    have aft0 := aftAll_len di.keyed ds
    have akey := (aftAll_ok di.keyed ds).1
    rw [Int.zero_add]
    refine pgd_name hb 13 trivial ?_
    refine wss_cons <| ws_par hb 14 5 <| plo_cons <| PP.po <| pp_ix <| pp_nm hb rfl <| pp_op <| pp_ty hb (id := "int") <| pl1 <| pp_op <| pp_op <| pp_nm hb rfl <| pp_nm hb rfl <| o_mul (.inl ⟨by omega, by omega⟩) <| pp_nm hb rfl <| o_add <| i_int <| pp_nm hb rfl <| o_mod (by omega) <| ix_lst (d := .int it0.1) (atI_int tp0 (by rw [List.getElem?_map, List.getElem?_map, q0]; rfl)) <| plo_cons <| PP.po <| pp_ix <| pp_nm hb rfl <| pp_op <| pp_ty hb (id := "int") <| pl1 <| pp_op <| pp_op <| pp_int <| pp_nm hb rfl <| o_mul (.inl ⟨by omega, by omega⟩) <| pp_nm hb rfl <| o_add <| i_int <| pp_cl hb (id := "len") <| pl1 <| pp_nm hb rfl <| l_len ?_
    rw [List.length_map]
    refine o_mod (by omega) <| ix_lst (d := dIt it1) (atI_int ip0 (by rw [List.getElem?_map, q1]; rfl)) <| plo_nil ⟨_, _, rfl, ?_⟩
    refine wss_cons <| ws_set hb 14 <| PP.po <| PP.imp (P := fun d => ∃ j : Int, d = .int j ∧ j.natAbs < 10 ^ 30) (pp_if <| pb_c <| pc_a <| pb_lI <| pp_nm hb rfl ⟨_, rfl, pp_int ⟨_, rfl, iD (fun e => pc_a1 <| pb_eI <| pp_op <| pp_ty hb (id := "int") <| pl1 <| pp_op <| pp_op <| pp_nm hb rfl <| pp_int <| o_mul (.inr ⟨by omega, by omega⟩) <| pp_nm hb rfl <| o_add <| i_int <| pp_int <| o_mod (by omega) ⟨_, rfl, pp_int ⟨_, rfl, iD (fun _ => pp_op <| pp_int <| pp_nm hb rfl <| o_add ⟨_, rfl, by omega⟩) fun _ => pp_nm hb rfl ⟨_, rfl, by omega⟩⟩⟩) fun e => iFF <| pp_nm hb rfl ⟨_, rfl, by omega⟩⟩⟩) fun d ⟨j, ej, hj⟩ => ?_
    subst ej
    refine wss_cons <| ws_set hb 15 <| PP.po <| PP.imp (P := fun d => ∃ b : Bool, d = .bl b) (pp_or <| pp_cmp <| PP.pr <| pp_op <| pp_ty hb (id := "int") <| pl1 <| pp_op <| pp_nm hb rfl <| pp_nm hb rfl <| o_mul (.inl ⟨by omega, by omega⟩) <| i_int <| pp_int <| o_mod (by omega) <| rd_nm hb rfl <| c_lt ⟨_, rfl, iD (fun _ => ⟨_, rfl⟩) fun _ => pp_one <| pp_and <| pp_cmp <| rd_nm hb rfl <| pr_nm hb rfl ?_⟩) fun d ⟨b, eb⟩ => ?_
    · rw [toD_dc]
      refine c_notInK (k := .inl j) hb ⟨_, rfl, iB (fun _ => pp_one <| pp_cmp <| PP.pr <| pp_lenR hb <| pr_nm hb rfl ⟨(enS (aftAll its ds)).length, ?_, rd_int <| c_gt ⟨_, rfl⟩⟩) fun _ => ⟨_, rfl⟩⟩
      rw [toD_dc]
      rfl
    subst eb
    have lz : (ds.map dDe).length < sizeLine := Nat.lt_of_le_of_lt (by simp; omega : (ds.map dDe).length ≤ 1000) (Nat.lt_of_lt_of_le (by decide) (Nat.le_of_lt line6))
    refine wss_cut (fun Γ' => ∃ dd : Deed, GD dd ∧ dd.key = j ∧ Γ' = [.bor IH, .v (.lst (its.map dIt)), .v (dSt its), .v (.lst ((its.map (·.1)).map .int)), .v (.int many), .v (dIt it1), .v (.int (1 + p)), .v (.int (1 + t)), .v (.int sh), .v (.int f), .own (O.ls (ds.map dDe ++ [dDe dd])), .own (O.dc (enS (aftAll its ds))), .own (O.dc (lastD ds)), .v (.int i), .v (.int j), .v (.bl b), .no, .no, .no]) (ws_appV hb 10 rfl <| pp_if <| pb_val <| pp_nm hb rfl ⟨b, rfl, iB (fun _ => ?_) fun _ => ?_⟩) fun Γ' h => ?_
    · exact pp_tup <| pl2 <| pp_str <| pp_nm hb rfl ⟨szN (by simp), lz, .take j, hj, rfl, rfl⟩
    · exact pp_tup <| pl2 <| pp_str <| pp_tup <| pl3 <| pp_nm hb rfl <| pp_nt hb rfl atI1 <| pp_nt hb rfl atI2 ⟨szN (by simp), szN (by simp), lz, .put (j, it1.2), ⟨hj, w1.vec, w1.lbs⟩, rfl, rfl⟩
    obtain ⟨dd, gd, dk, rfl⟩ := h
    have lastL : (lastD ds).length < sizeLine := Nat.lt_of_le_of_lt (lastD_len ds) (by rw [List.length_map] at lz; exact lz)
    refine wss_cons <| ws_dput hb 12 rfl <| pp_ixO <| pr_nm hb rfl ⟨_, rfl, pp_neg <| pp_int ⟨1, rfl, -1, _, rfl, atI_last, pp_nm hb rfl ⟨.inl j, rfl, lastL, ?_⟩⟩⟩
    have eL : dPut (lastD ds) (.inl j) (dDe dd) = lastD (ds ++ [dd]) := by rw [lastD_snoc, dk]
    have eM : ds.map dDe ++ [dDe dd] = (ds ++ [dd]).map dDe := by rw [List.map_append]; rfl
    have gds : ∀ d ∈ ds ++ [dd], GD d := fun d hd => by
      rcases List.mem_append.mp hd with z | z
      · exact dg d z
      · have : d = dd := by simpa using z
        rw [this]
        exact gd
    have fin : ∀ kvs, kvs = enS (aftAll its (ds ++ [dd])) → ∃ ds' : List Deed, ([.bor IH, .v (.lst (its.map dIt)), .v (dSt its), .v (.lst ((its.map (·.1)).map .int)), .v (.int many), .no, .v (.int (1 + p)), .v (.int (1 + t)), .v (.int sh), .v (.int f), .own (O.ls (ds.map dDe ++ [dDe dd])), .own (O.dc kvs), .own (O.dc (dPut (lastD ds) (.inl j) (dDe dd))), .no, .no, .no, .no, .no, .no] : List Dn.Slot) = G ds' ∧ ds'.length = i + 1 ∧ ∀ d ∈ ds', GD d := fun kvs e => by
      refine ⟨ds ++ [dd], ?_, by simp [dl], gds⟩
      rw [e, eL, eM]
    cases dd with
    | put it =>
      have e3 : it.1 = j := dk
      refine wss_cons <| ws_if <| pb_eS <| pp_ti <| pp_ixO <| pr_nm hb rfl ⟨_, rfl, pp_neg <| pp_int ⟨1, rfl, -1, _, rfl, atI_last, _, _, rfl, atI0, _, rfl, iY rfl ?_⟩⟩
      refine wss_cons <| ws_dput hb 11 rfl <| pp_ti <| pp_ixO <| pr_nm hb rfl ⟨_, rfl, pp_neg <| pp_int ⟨1, rfl, -1, _, rfl, atI_last, _, _, rfl, atI1, pp_nm hb rfl ⟨.inl j, rfl, ?_, wss_nil <| wss_end [5, 13, 14, 15] <| fin _ ?_⟩⟩⟩
      · refine Nat.lt_of_le_of_lt (?_ : _ ≤ 1000) (Nat.lt_of_lt_of_le (by decide) (Nat.le_of_lt line6))
        rw [List.length_map]
        omega
      · rw [aftAll_snoc, ← e3]
        exact put_addS _ it
    | take j' =>
      have e3 : j' = j := dk
      subst e3
      refine wss_cons <| ws_if <| pb_eS <| pp_ti <| pp_ixO <| pr_nm hb rfl ⟨_, rfl, pp_neg <| pp_int ⟨1, rfl, -1, _, rfl, atI_last, _, _, rfl, atI0, _, rfl, iNo (by decide) ?_⟩⟩
      refine wss_cons <| ws_if <| pb_cmp <| rd_nm hb rfl <| pr_nm hb rfl ?_
      rw [toD_dc]
      refine c_inK (k := .inl j') hb <| iB (fun e => ?_) fun e => ?_
      · obtain ⟨d0, e0⟩ := Option.isSome_iff_exists.mp e
        refine wss_cons <| ws_dpop hb 11 rfl <| pp_nm hb rfl ⟨.inl j', d0, rfl, e0, wss_nil <| wss_nil <| wss_end [5, 13, 14, 15] <| fin _ ?_⟩
        rw [aftAll_snoc]
        exact drop_enS _ j'
      · refine wss_nil <| wss_nil <| wss_end [5, 13, 14, 15] <| fin _ ?_
        rw [aftAll_snoc]
        show _ = enS ((aftAll its ds).filter fun x => decide (x.1 ≠ j'))
        rw [filter_same]
        intro x hx z
        have := enS_some akey hx
        rw [z] at this
        rw [this] at e
        cases e
  obtain ⟨ds, rfl, dl, gds⟩ := h
  obtain ⟨akey, perm⟩ := aftAll_ok di.keyed ds
  have aft0 := aftAll_len di.keyed ds
  have hl6 := line6
  refine wss_frz 10 rfl ?_
  rw [toD_ls]
  refine wss_frz 11 rfl ?_
  rw [toD_dc]
  refine wss_frz 12 rfl ?_
  rw [toD_dc]
  have wiA : ∀ it ∈ aftAll its ds, WI it := fun it hit => by
    rcases aftAll_from di.keyed hit with z | z
    · exact di.small it z
    · exact gds _ z
  have wiD : ∀ it ∈ doneAll its ds, WI it := fun it hit => wiA it (perm.mem_iff.mp hit)
  generalize haf : aftAll its ds = af at akey perm aft0 wiA
  generalize hdn : doneAll its ds = dn at perm wiD
  have smD := same_perm akey perm wiD
  refine wss_cons <| ws_set hb 16 <| po_call hb tx.calm (f_done_all tx) (pl2 <| pp_nm hb rfl <| pp_ty hb (id := "tuple") <| pl1 <| pp_nm hb rfl <| l_tuple ⟨rfl, its, ds, .inr rfl, di.keyed, by omega, ?_⟩) d3
  rw [hdn]
  have tupW : Wt 5 (.tup (atKeys (lastD ds))) (400 * 8427 + 3) := by
    refine ⟨8425, atKeys_wt gds, ?_⟩
    have : (atKeys (lastD ds)).length ≤ 400 := by
      unfold atKeys
      rw [List.length_map, List.length_mergeSort, ks_len]
      have := lastD_len ds
      omega
    omega
  refine wss_cons <| ws_if <| pb_c <| pc_o <| pb_cmp <| rd_nm hb rfl <| rd_nm hb rfl <| c_neSame hb smD <| iFF <| pc_o1 <| pb_cmp <| PP.pr <| pp_call hb tx.calm (f_last tx) (pl1 <| pp_ty hb (id := "tuple") <| pl1 <| pp_nm hb rfl <| l_tuple ⟨rfl, ds, rfl, by omega, PP.pr <| pp_ty hb (id := "tuple") <| pl1 <| pp_lc hb tx.calm [("key", 14)] <| pit_lst <| pp_cl hb (id := "sorted") <| pl1 <| pp_nm hb rfl <| d_sortK hb (lastD_ik ds).keys ⟨_, rfl, ?_⟩⟩) d2
  refine lp_atKeys (lastD_ik ds) (by have := lastD_len ds; omega) (l_tuple (c_neW hb tupW ?_)) fun i d ed => ⟨_, fun X' hb' => pgd_name hb' 14 (by simp) rfl, fun X' hb' => pp_ix <| pp_nm hb' rfl <| pp_nm hb' rfl <| ix_dic (k := .inl i) hb' ed rfl⟩
  refine iFF <| wss_nil ?_
  refine wss_cons <| ws_set hb 17 <| po_lst <| pl_nil ⟨Nat.zero_le _, ?_⟩
  have kInt : ∀ j : Int, j ∈ its.map (·.1) ∨ j ∈ ksD (lastD ds) → j.natAbs < 10 ^ 30 := fun j hj => by
    rcases hj with z | z
    · obtain ⟨it, hit, rfl⟩ := List.mem_map.mp z
      exact (di.small it hit).key
    · obtain ⟨d, hd, rfl⟩ := (lastD_ks ds j).mp z
      cases d with
      | put it => exact (gds _ hd).key
      | take j => exact gds _ hd
  have llen := lastD_len ds
  let due : List Int → List D := fun ks => ks.flatMap (btw (enS its) (enS af))
  refine wss_cut (fun Γ' => ∃ ks : List Int, ks.Pairwise (· < ·) ∧ (∀ i, i ∈ ks ↔ i ∈ its.map (·.1) ∨ i ∈ ksD (lastD ds)) ∧ Γ' = [.bor IH, .v (.lst (its.map dIt)), .v (dSt its), .v (.lst ((its.map (·.1)).map .int)), .v (.int many), .no, .v (.int (1 + p)), .v (.int (1 + t)), .v (.int sh), .v (.int f), .v (.lst (ds.map dDe)), .v (.dic (enS af)), .v (.dic (lastD ds)), .no, .no, .no, .v (dSt dn), .own (O.ls (due ks)), .no]) (ws_for hb ho <| pit_lst <| pp_sortSet hb <| pp_op <| pp_nm hb rfl <| pp_ty hb (id := "list") <| pl1 <| pp_nm hb rfl <| d_list hb <| o_catL (by simp; omega) ⟨its.map (·.1) ++ ksD (lastD ds), by rw [ik_ints (lastD_ik ds), List.map_append], by rw [List.length_append, ks_len, List.length_map]; omega, fun ks h1 h2 => ⟨_, rfl, fun i Γ' => Γ' = [.bor IH, .v (.lst (its.map dIt)), .v (dSt its), .v (.lst ((its.map (·.1)).map .int)), .v (.int many), .no, .v (.int (1 + p)), .v (.int (1 + t)), .v (.int sh), .v (.int f), .v (.lst (ds.map dDe)), .v (.dic (enS af)), .v (.dic (lastD ds)), .no, .no, .no, .v (dSt dn), .own (O.ls (due (ks.take i))), .no], rfl, fun Γ' h => ?_, fun i d Γ' hd h => ?_⟩⟩) fun Γ' h => ?_
  · rw [List.length_map, List.take_length] at h
    exact ⟨ks, h1, fun i => by rw [h2, List.mem_append], h⟩
  · subst h
    rw [List.getElem?_map] at hd
    cases q : ks[i]? with
    | none => rw [q] at hd; cases hd
    | some key =>
      rw [q] at hd
      cases hd
      have hkl := sub_len h1 fun j hj => (h2 j).mp hj
      rw [List.length_append, ks_len, List.length_map] at hkl
      have hi : i < ks.length := (List.getElem?_eq_some_iff.mp q).1
      have tk : ks.take (i + 1) = ks.take i ++ [key] := by rw [List.take_succ, q]; rfl
      have fl := flat_le (btw_len (enS its) (enS af)) (ks.take i)
      rw [List.length_take] at fl
      have fz : (due (ks.take i)).length < sizeLine := by
        show ((ks.take i).flatMap (btw (enS its) (enS af))).length < _
        omega
      have keyA : key.natAbs < 10 ^ 30 := kInt key (by
        have := (h2 key).mp (List.mem_of_getElem? q)
        rwa [List.mem_append] at this)
      have fin : ∀ l, btw (enS its) (enS af) key = l → ([.bor IH, .v (.lst (its.map dIt)), .v (dSt its), .v (.lst ((its.map (·.1)).map .int)), .v (.int many), .no, .v (.int (1 + p)), .v (.int (1 + t)), .v (.int sh), .v (.int f), .v (.lst (ds.map dDe)), .v (.dic (enS af)), .v (.dic (lastD ds)), .no, .no, .no, .v (dSt dn), .own (O.ls (due (ks.take i) ++ l)), .no] : List Dn.Slot) = [.bor IH, .v (.lst (its.map dIt)), .v (dSt its), .v (.lst ((its.map (·.1)).map .int)), .v (.int many), .no, .v (.int (1 + p)), .v (.int (1 + t)), .v (.int sh), .v (.int f), .v (.lst (ds.map dDe)), .v (.dic (enS af)), .v (.dic (lastD ds)), .no, .no, .no, .v (dSt dn), .own (O.ls (due (ks.take (i + 1)))), .no] := fun l e => by
        have : due (ks.take (i + 1)) = due (ks.take i) ++ l := by
          show (ks.take (i + 1)).flatMap _ = _
          rw [tk, List.flatMap_append, List.flatMap_singleton, e]
        rw [this]
      refine pgd_name hb 14 trivial ?_
      have fin0 := fun e => (List.append_nil (due (ks.take i)) ▸ fin [] e :)
      refine wss_cons <| ws_if <| pb_c <| pc_a <| pb_cmp <| rd_nm hb rfl <| rd_nm hb rfl <| c_inK (k := .inl key) hb ?_
      cases q1 : dGet (enS its) (.inl key) with
      | none =>
        refine iFF <| iFF <| wss_cons <| ws_if <| pb_c <| pc_a <| pb_cmp <| rd_nm hb rfl <| rd_nm hb rfl <| c_inK (k := .inl key) hb ?_
        cases q2 : dGet (enS af) (.inl key) with
        | none =>
          refine iFF <| iFF <| wss_nil <| wss_nil <| wss_end [14] (fin0 ?_)
          unfold btw
          rw [q1, q2]
        | some d2 =>
          refine iTT <| pc_a1 <| pb_c <| pc_o <| pb_cmp <| rd_nm hb rfl <| rd_nm hb rfl <| c_notInK (k := .inl key) hb ?_
          rw [q1]
          refine iTT (iTT ?_)
          refine wss_cons <| ws_appV hb 17 rfl (pp_tup <| pl2 <| pp_str <| pp_ix <| pp_nm hb rfl <| pp_nm hb rfl <| ix_dic (k := .inl key) hb q2 ⟨szN (by simp), fz, wss_nil <| wss_nil <| wss_end [14] (fin [.tup [.str "put", d2]] ?_)⟩)
          unfold btw
          rw [q1, q2]
      | some d1 =>
        refine iTT <| pc_a1 <| pb_cmp <| rd_nm hb rfl <| rd_nm hb rfl <| c_notInK (k := .inl key) hb ?_
        cases q2 : dGet (enS af) (.inl key) with
        | none =>
          refine iTT ?_
          refine wss_cons <| ws_appV hb 17 rfl (pp_tup <| pl2 <| pp_str <| pp_nm hb rfl ⟨szN (by simp), fz, wss_nil <| wss_end [14] (fin [.tup [.str "take", .int key]] ?_)⟩)
          unfold btw
          rw [q1, q2]
        | some d2 =>
          refine iFF <| wss_cons <| ws_if <| pb_c <| pc_a <| pb_cmp <| rd_nm hb rfl <| rd_nm hb rfl <| c_inK (k := .inl key) hb ?_
          rw [q2]
          refine iTT <| pc_a1 <| pb_c <| pc_o <| pb_cmp <| rd_nm hb rfl <| rd_nm hb rfl <| c_notInK (k := .inl key) hb ?_
          rw [q1]
          obtain ⟨x1, hx1, rfl, _⟩ := enS_val q1
          obtain ⟨x2, hx2, rfl, _⟩ := enS_val q2
          refine iFF <| pc_o1 <| pb_cmp <| PP.pr <| pp_ix <| pp_nm hb rfl <| pp_nm hb rfl <| ix_dic (k := .inl key) hb q1 <| PP.pr <| pp_ix <| pp_nm hb rfl <| pp_nm hb rfl <| ix_dic (k := .inl key) hb q2 <| c_nev hb (n := 3) (m := 3) (wt_sh 3 _ _ (di.small x1 hx1).wt).1 (wt_sh 3 _ _ (wiA x2 hx2).wt).1 ?_
          cases qe : PyData.eqv (dIt x1).py (dIt x2).py with
          | false =>
            show if (!PyData.eqv (dIt x1).py (dIt x2).py) = true then _ else _
            rw [qe]
            refine iTT ?_
            refine wss_cons <| ws_appV hb 17 rfl (pp_tup <| pl2 <| pp_str <| pp_ix <| pp_nm hb rfl <| pp_nm hb rfl <| ix_dic (k := .inl key) hb q2 ⟨szN (by simp), fz, wss_nil <| wss_nil <| wss_end [14] (fin [.tup [.str "put", dIt x2]] ?_)⟩)
            unfold btw
            rw [q1, q2]
            simp [qe]
          | true =>
            show if (!PyData.eqv (dIt x1).py (dIt x2).py) = true then _ else _
            rw [qe]
            refine iFF <| wss_nil <| wss_nil <| wss_end [14] (fin0 ?_)
            unfold btw
            rw [q1, q2]
            simp [qe]
  obtain ⟨ks, h1, h2, rfl⟩ := h
  refine wss_frz 17 rfl ?_
  rw [toD_ls]
  refine wss_cons <| ws_all (ws_setLc hb tx.calm [("item", 5)] 18 (pit_any <| pit_lst <| pp_nm hb rfl ⟨_, rfl, ?_⟩)) (fun _ _ _ => trivial)
  refine lc_mapB dIt (fun it => dDe (.put it)) (szN (by omega)) ?_ fun it hit => ⟨_, fun X' hb' => pgd_name hb' 5 (by simp) rfl, fun X' hb' => pp_tup <| pl2 <| pp_str <| pp_nm hb' rfl ⟨szN (by simp), rfl⟩⟩
  refine wss_frz 18 rfl ?_
  rw [toD_ls]
  have sortI : IK (enS its) := enS_ik its
  have sh10 : ∀ st : List Item, (∀ it ∈ st, WI it) → ShV (enS st) := fun st h kv hkv => by
    obtain ⟨it, hit, rfl⟩ := List.mem_map.mp hkv
    exact sh_le (wt_sh 3 _ _ (h it hit).wt).1 (by decide)
  refine wss_cons <| ws_retP <| pp_and <| pp_call hb tx.calm (f_same tx) (pl2 <| pp_call hb tx.calm (f_between tx) (pl2 <| pp_nm hb rfl <| pp_nm hb rfl ⟨rfl, enS its, enS af, rfl, enS_ik _, enS_ik _, sh10 _ di.small, sh10 _ wiA, by simp; omega, by simp; omega, fun ks0 k1 k2 => ?_⟩) d1) d1
  have eF : ks0.flatMap (btw (enS its) (enS af)) = due ks := by
    refine flat_keys k1 h1 (fun i hi => ?_) fun i hi hn => ?_
    · rcases (k2 i).mp hi with z | z
      · rw [enS_ks] at z
        exact (h2 i).mpr (.inl z)
      · rw [enS_ks] at z
        obtain ⟨it, hit, rfl⟩ := List.mem_map.mp z
        rw [← haf] at hit
        rcases aftAll_from di.keyed hit with w | w
        · exact (h2 _).mpr (.inl (List.mem_map.mpr ⟨it, w, rfl⟩))
        · exact (h2 _).mpr (.inr ((lastD_ks ds _).mpr ⟨_, w, rfl⟩))
    · exact btw_out (enS_ik _) (enS_ik _) (fun z => hn ((k2 i).mpr (.inl z))) fun z => hn ((k2 i).mpr (.inr z))
  rw [eF]
  refine pp_ty hb (id := "tuple") <| pl1 <| pp_nm hb rfl <| l_tuple ⟨rfl, _, rfl, ?_, true, rfl, iTT ?_⟩
  · have kl : ks.length ≤ 800 := by
      have := sub_len (ns := its.map (·.1) ++ ksD (lastD ds)) h1 fun j hj => by
        rw [List.mem_append]
        exact (h2 j).mp hj
      rw [List.length_append, ks_len, List.length_map] at this
      omega
    refine sa_of (n := 5) (w := 800 * 8427 + 3) ⟨8425, fun e he => ?_, ?_⟩ (by decide) (by decide)
    · obtain ⟨i, hi, he⟩ := List.mem_flatMap.mp he
      exact btw_wt wiA (kInt i ((h2 i).mp hi)) e he
    · have := flat_le (btw_len (enS its) (enS af)) ks
      have : (due ks).length ≤ 800 := by
        show (ks.flatMap _).length ≤ 800
        omega
      omega
  · refine pp_and <| pp_cmp <| PP.pr <| pp_call hb tx.calm (f_done_all tx) (pl2 <| PO.pp <| po_dnew <| pp_ty hb (id := "tuple") <| pl1 <| pp_nm hb rfl <| l_tuple ⟨rfl, [], its.map Deed.put, .inr ?_, by simp [Keyed], by simp; omega, ?_⟩) d3
    · rw [toD_dc, List.map_map]
      rfl
    · rw [doneAll_puts di.keyed]
      refine rd_nm hb rfl <| c_eqSame hb (same_perm di.keyed (.refl _) di.small) ⟨true, rfl, iTT <| pp_one <| pp_cmp <| PP.pr <| pp_cl hb (id := "len") <| pl1 <| pp_nm hb rfl <| d_lenD <| PP.pr <| pp_cl hb (id := "len") <| pl1 <| pp_nm hb rfl <| d_lenD <| c_eqI ?_⟩
      rw [decide_eq_true (by simp [perm.length_eq])]
      exact r
theorem f_deeds (tx : Tx W) : Df W 4 "_law_deeds_right" (spB W.K IH 2 S_deeds) := d__law_deeds_right (fun f fd F m bn => Df.mkB tx.calm F m c__law_deeds_right rfl bn fun X hb ho ds R hl h => b_deeds (k := 0) tx hb ho ds R hl h) tx.F__law_deeds_right
end T

/-! K84zb: union_of; the first pairs of many lots. -/
namespace T
open PySem PySem.Spec L2 RZ Dn
variable {W : Wd} {X : Cx} {k : Nat}
def S_union : SgX := fun ds P Y => ∃ lots : List (List Item), ds = [.tup (lots.map dSt)] ∧ lots.flatten.length ≤ 1000 ∧ (Keyed lots.flatten → P (O.dc (enS lots.flatten))) ∧ (¬ Keyed lots.flatten → Y ("Refused", [("word", .str "key")]))
theorem flat_take {α : Type} {ls : List (List α)} {i : Nat} {l : List α} (h : ls[i]? = some l) : (ls.take (i + 1)).flatten = (ls.take i).flatten ++ l := by
  rw [List.take_succ, h]
  simp
theorem keyed_snoc {acc : List Item} {it : Item} (h : Keyed acc) (n : ∀ x ∈ acc, x.1 ≠ it.1) : Keyed (acc ++ [it]) := by
  show ((acc ++ [it]).map (·.1)).Nodup
  rw [List.map_append, List.nodup_append]
  refine ⟨h, by simp, fun a ha b hb z => ?_⟩
  obtain ⟨x, hx, rfl⟩ := List.mem_map.mp ha
  have e : b = it.1 := by simpa using hb
  exact n x hx (z.trans e)
theorem b_union (tx : Tx W) (hb : Bc W X ⟨k + 1, n_union_of, defScope s_union_of, fun _ => true⟩) (ho : Own X) (ds : List D) (R : O → Prop) (Y : Xn → Prop) (_ : ds.length = 1) (h : S_union ds R Y) :
    WSs X (defBody s_union_of) (begin0 n_union_of 1 (ds.map Slot.v)) { nx := fun _ => R (.val .non), rt := R, ex := fun _ => Y } := by
  obtain ⟨lots, rfl, hz, r, y⟩ := h
  have hl := line6
  refine wss_cons <| ws_set hb 1 <| po_dnew ?_
  let G : List Item → List Dn.Slot := fun acc => [.v (.tup (lots.map dSt)), .own (O.dc (enS acc)), .no, .no, .no]
  refine wss_cut (fun Γ' => Γ' = G lots.flatten ∧ Keyed lots.flatten) (ws_for hb ho <| pit_tup <| pp_nm hb rfl ⟨_, rfl, fun i Γ' => Γ' = G (lots.take i).flatten ∧ Keyed (lots.take i).flatten, ⟨rfl, by simp [Keyed]⟩, fun Γ' h => ?_, fun i d Γ' hd h => ?_⟩) fun Γ' h => ?_
  · rw [List.length_map, List.take_length] at h
    exact h
  · obtain ⟨rfl, hk⟩ := h
    rw [List.getElem?_map] at hd
    cases q : lots[i]? with
    | none => rw [q] at hd; cases hd
    | some st =>
      rw [q] at hd
      cases hd
      have ft := flat_take q
      have sub : ((lots.take i).flatten ++ st).length ≤ 1000 := by
        rw [← ft]
        have e : lots.flatten = (lots.take (i + 1)).flatten ++ (lots.drop (i + 1)).flatten := by rw [← List.flatten_append, List.take_append_drop]
        have := congrArg List.length e
        rw [List.length_append] at this
        omega
      have whole : ∀ j it, st[j]? = some it → ∃ rest, lots.flatten = ((lots.take i).flatten ++ st.take j) ++ it :: rest := fun j it hj => by
        refine ⟨st.drop (j + 1) ++ (lots.drop (i + 1)).flatten, ?_⟩
        have e : lots.flatten = (lots.take (i + 1)).flatten ++ (lots.drop (i + 1)).flatten := by rw [← List.flatten_append, List.take_append_drop]
        have e2 : st = st.take j ++ it :: st.drop (j + 1) := by
          obtain ⟨hlt, rfl⟩ := List.getElem?_eq_some_iff.mp hj
          rw [List.getElem_cons_drop]
          exact (List.take_append_drop j st).symm
        rw [e, ft]
        conv => lhs; rw [e2]
        simp
      refine pgd_name hb 2 trivial ?_
      refine wss_cons <| ws_lock 2 rfl <| wsc_for hb ho (pitc_items hb 2 ?_)
      refine ⟨fun j Γ' => Γ' = [.v (.tup (lots.map dSt)), .own (O.dc (enS ((lots.take i).flatten ++ st.take j))), .v (dSt st), .no, .no] ∧ Keyed ((lots.take i).flatten ++ st.take j), ⟨by rw [List.take_zero, List.append_nil]; rfl, by simpa using hk⟩, fun Γ' h => ?_, fun j d Γ' hd h => ?_⟩
      · obtain ⟨rfl, hk2⟩ := h
        have e : ((itemsD (enS st)).length) = st.length := by simp [itemsD]
        rw [e, List.take_length] at hk2 ⊢
        refine wss_end [2] ⟨?_, by rw [ft]; exact hk2⟩
        rw [ft]
        rfl
      · obtain ⟨rfl, hk2⟩ := h
        rw [items_enS, List.getElem?_map] at hd
        cases q2 : st[j]? with
        | none => rw [q2] at hd; cases hd
        | some it =>
          rw [q2] at hd
          cases hd
          obtain ⟨rest, ew⟩ := whole j it q2
          have tk : st.take (j + 1) = st.take j ++ [it] := by rw [List.take_succ, q2]; rfl
          have la : ((lots.take i).flatten ++ st.take j).length ≤ 1000 := by
            rw [List.length_append, List.length_take] 
            rw [List.length_append] at sub
            omega
          generalize hacc : (lots.take i).flatten ++ st.take j = acc at hk2 ew la
          have ha2 : (lots.take i).flatten ++ st.take (j + 1) = acc ++ [it] := by rw [tk, ← List.append_assoc, hacc]
          refine pgd_tup hb <| pgs_cons <| pgd_name hb 3 trivial <| pgs_cons <| pgd_name hb 4 trivial <| pgs_nil ?_
          refine wss_cons <| ws_if <| pb_cmp <| rd_nm hb rfl <| pr_nm hb rfl ?_
          rw [toD_dc]
          refine c_inK (k := .inl it.1) hb <| iB (fun e => ?_) fun e => ?_
          · refine wss_cons <| ws_raise hb tx.X_Refused (pp_str (y fun z => ?_)) (by show 1 ≤ k + 1; omega)
            rw [ew] at z
            have z' : ((acc ++ it :: rest).map (·.1)).Nodup := z
            rw [List.map_append, List.nodup_append] at z'
            obtain ⟨d, ed⟩ := Option.isSome_iff_exists.mp e
            obtain ⟨x, hx, _, ex⟩ := enS_val ed
            exact z'.2.2 x.1 (List.mem_map.mpr ⟨x, hx, rfl⟩) it.1 (by simp) ex
          · have n : ∀ x ∈ acc, x.1 ≠ it.1 := fun x hx z => by
              have := enS_some hk2 hx
              rw [z] at this
              rw [this] at e
              cases e
            refine wss_nil <| wss_cons <| ws_dput hb 1 rfl <| pp_nm hb rfl <| pp_nm hb rfl ⟨.inl it.1, rfl, ?_, wss_end [3, 4] ⟨?_, ?_⟩⟩
            · refine Nat.lt_of_le_of_lt (?_ : _ ≤ 1000) (by omega)
              rw [List.length_map]
              exact la
            · show ([.v (.tup (lots.map dSt)), .own (O.dc (dPut (enS acc) (.inl it.1) (dIt it))), .v (dSt st), .no, .no] : List Dn.Slot) = _
              rw [put_new n, ha2]
            · rw [ha2]
              exact keyed_snoc hk2 n
  · obtain ⟨rfl, hk⟩ := h
    exact wss_cons <| ws_retO hb 1 rfl (r hk)
theorem f_union (tx : Tx W) : Df W 2 "union_of" (spX W.K W.mg 1 S_union) := d_union_of (fun f fd F m bn => Df.mkX tx.calm tx.xs F m c_union_of rfl bn fun X hb ho ds R Y hl h => b_union (k := 0) tx hb ho ds R Y hl h) tx.F_union_of
end T

/-! K84zc: the first pairs of many lots; the union is right. -/
namespace T
open PySem PySem.Spec L2 RZ Dn
variable {W : Wd} {X : Cx} {k : Nat}
theorem filter_take {α : Type} (p : α → Bool) : ∀ (l : List α) (n : Nat) (x : α), x ∈ l.take n → p x = true → x ∈ (l.filter p).take n
  | [], n, x, h, _ => by simp at h
  | a :: l, 0, x, h, _ => by simp at h
  | a :: l, n + 1, x, h, hp => by
    rw [List.take_succ_cons] at h
    rcases List.mem_cons.mp h with rfl | h
    · rw [List.filter_cons_of_pos hp, List.take_succ_cons]
      exact List.mem_cons_self
    · have ih := filter_take p l n x h hp
      cases e : p a with
      | true =>
        rw [List.filter_cons_of_pos e, List.take_succ_cons]
        exact List.mem_cons_of_mem _ ih
      | false =>
        rw [List.filter_cons_of_neg (by rw [e]; exact Bool.false_ne_true)]
        have : (l.filter p).take n = ((l.filter p).take (n + 1)).take n := by rw [List.take_take, Nat.min_eq_left (Nat.le_succ n)]
        rw [this] at ih
        exact List.mem_of_mem_take ih
abbrev srt (l : List PI) : List PI := l.mergeSort lePr
theorem srt_mem {l : List PI} {x : PI} : x ∈ srt l ↔ x ∈ l := List.mem_mergeSort
theorem srt_nodup {l : List PI} (h : l.Nodup) : (srt l).Nodup := (List.mergeSort_perm l lePr).nodup_iff.mpr h
theorem merge_take (n : Nat) {ls : List (List PI)} (hn : ls.flatten.Nodup) : (srt ((ls.map fun l => (srt l).take n).flatten)).take n = (srt ls.flatten).take n := by
  generalize hS : srt ls.flatten = S
  have sS : S.Pairwise fun p q => lePr p q = true := by rw [← hS]; exact sortedPr _
  have nS : S.Nodup := by rw [← hS]; exact srt_nodup hn
  have mS : ∀ x, x ∈ S ↔ x ∈ ls.flatten := fun x => by rw [← hS]; exact srt_mem
  have each : ∀ l ∈ ls, l.Nodup := (List.pairwise_flatten.mp hn).1
  generalize hB : (ls.map fun l => (srt l).take n).flatten = B
  have mB : ∀ x ∈ B, x ∈ S := fun x hx => by
    rw [← hB] at hx
    obtain ⟨m, hm, hx⟩ := List.mem_flatten.mp hx
    obtain ⟨l, hl, rfl⟩ := List.mem_map.mp hm
    exact (mS x).mpr (List.mem_flatten.mpr ⟨l, hl, srt_mem.mp (List.mem_of_mem_take hx)⟩)
  have nB : B.Nodup := by
    rw [← hB]
    refine List.pairwise_flatten.mpr ⟨fun m hm => ?_, ?_⟩
    · obtain ⟨l, hl, rfl⟩ := List.mem_map.mp hm
      exact (srt_nodup (each l hl)).sublist (List.take_sublist _ _)
    · rw [List.pairwise_map]
      refine (List.pairwise_flatten.mp hn).2.imp fun h x hx y hy => ?_
      exact h x (srt_mem.mp (List.mem_of_mem_take hx)) y (srt_mem.mp (List.mem_of_mem_take hy))
  have TB : ∀ x ∈ S.take n, x ∈ B := fun x hx => by
    obtain ⟨l, hl, hxl⟩ := List.mem_flatten.mp ((mS x).mp (List.mem_of_mem_take hx))
    have e : srt l = S.filter fun y => decide (y ∈ l) := by
      refine perm_sortedP ((List.perm_ext_iff_of_nodup (srt_nodup (each l hl)) (nS.filter _)).mpr fun y => ?_) (sortedPr _) (sS.sublist List.filter_sublist)
      rw [srt_mem, List.mem_filter, decide_eq_true_eq, mS]
      exact ⟨fun h => ⟨List.mem_flatten.mpr ⟨l, hl, h⟩, h⟩, fun h => h.2⟩
    rw [← hB]
    refine List.mem_flatten.mpr ⟨(srt l).take n, List.mem_map.mpr ⟨l, hl, rfl⟩, ?_⟩
    rw [e]
    exact filter_take _ S n x hx (decide_eq_true hxl)
  have split : S = S.take n ++ S.drop n := (List.take_append_drop n S).symm
  have nT : (S.take n).Nodup := nS.sublist (List.take_sublist _ _)
  generalize hV : B.filter (fun y => !decide (y ∈ S.take n)) = V
  have mV : ∀ x, x ∈ V ↔ x ∈ B ∧ x ∉ S.take n := fun x => by
    rw [← hV, List.mem_filter]
    simp
  have perm : B.Perm (S.take n ++ V) := by
    refine (List.perm_ext_iff_of_nodup nB ?_).mpr fun x => ?_
    · rw [List.nodup_append]
      refine ⟨nT, ?_, fun a ha b hb z => ((mV b).mp hb).2 (z ▸ ha)⟩
      rw [← hV]
      exact nB.filter _
    · rw [List.mem_append, mV]
      constructor
      · intro h
        by_cases q : x ∈ S.take n
        · exact .inl q
        · exact .inr ⟨h, q⟩
      · rintro (h | h)
        · exact TB x h
        · exact h.1
  have eB : srt B = S.take n ++ srt V := by
    refine perm_sortedP ((List.mergeSort_perm B lePr).trans (perm.trans ((List.Perm.refl _).append (List.mergeSort_perm V lePr).symm))) (sortedPr _) ?_
    rw [List.pairwise_append]
    refine ⟨sS.sublist (List.take_sublist _ _), sortedPr _, fun a ha b hb => ?_⟩
    obtain ⟨h1, h2⟩ := (mV b).mp (srt_mem.mp hb)
    have hd : b ∈ S.drop n := by
      have := mB b h1
      rw [split] at this
      rcases List.mem_append.mp this with z | z
      · exact absurd z h2
      · exact z
    rw [split, List.pairwise_append] at sS
    exact sS.2.2 a ha b hd
  rw [eB]
  by_cases hl : n ≤ S.length
  · have : (S.take n).length = n := by rw [List.length_take]; omega
    rw [List.take_append_of_le_length (by omega), List.take_of_length_le (by omega)]
  · have eV : V = [] := by
      cases V with
      | nil => rfl
      | cons x V =>
        obtain ⟨h1, h2⟩ := (mV x).mp List.mem_cons_self
        exact absurd (by rw [List.take_of_length_le (by omega)]; exact mB x h1) h2
    rw [eV]
    have : srt [] = [] := by simp [srt]
    rw [this, List.append_nil, List.take_take, Nat.min_self]
theorem set_perm {it : Item} : ∀ {L : List (List Item)} {j : Nat} {l : List Item}, L[j]? = some l → (L.set j (l ++ [it])).flatten.Perm (L.flatten ++ [it])
  | [], j, l, h => by simp at h
  | m :: L, 0, l, h => by
    have e : m = l := by simpa using h
    subst e
    rw [List.set_cons_zero, List.flatten_cons, List.flatten_cons, List.append_assoc, List.append_assoc]
    exact (List.Perm.refl m).append List.perm_append_comm
  | m :: L, j + 1, l, h => by
    rw [List.set_cons_succ, List.flatten_cons, List.flatten_cons, List.append_assoc]
    exact (List.Perm.refl m).append (set_perm (by simpa using h))
/-- the answer out of the lots' answers -/
theorem lots_first {its : List Item} {L : List (List Item)} (hk : Keyed its) (p : L.flatten.Perm its) (kd : Str) (v : List Int) (s : Sv) (n : Nat) :
    ((L.map fun l => (prsL kd v s l).take n).flatten.mergeSort lePr).take n = (prsL kd v s its).take n := by
  have e : (L.map fun l => (prsL kd v s l).take n) = (L.map fun l => (l.filter fun it => lets s it.2.2).map (pairL kd v)).map fun l => (srt l).take n := by
    rw [List.map_map]
    rfl
  have e2 : (L.map fun l => (l.filter fun it => lets s it.2.2).map (pairL kd v)).flatten = (L.flatten.filter fun it => lets s it.2.2).map (pairL kd v) := by
    rw [List.filter_flatten, List.map_flatten, List.map_map]
    rfl
  have pp : ((L.flatten.filter fun it => lets s it.2.2).map (pairL kd v)).Perm ((its.filter fun it => lets s it.2.2).map (pairL kd v)) := (p.filter _).map _
  have nd : ((L.flatten.filter fun it => lets s it.2.2).map (pairL kd v)).Nodup := by
    refine pp.nodup_iff.mpr (nodup_of_map (f := fun q : PI => q.2) ?_)
    rw [List.map_map]
    exact hk.filter _
  rw [e]
  refine (merge_take n (by rw [e2]; exact nd)).trans ?_
  rw [e2]
  unfold prsL
  rw [show srt ((L.flatten.filter fun it => lets s it.2.2).map (pairL kd v)) = _ from sort_perm pp]
end T

/-! K84zd: the union is right. -/
namespace T
open PySem PySem.Spec L2 RZ Dn
variable {W : Wd} {X : Cx} {k : Nat}
/-- where no key is twice nothing is raised -/
def S_unionP : Sg := fun ds R => ∃ lots : List (List Item), ds = [.tup (lots.map dSt)] ∧ lots.flatten.length ≤ 1000 ∧ Keyed lots.flatten ∧ R (O.dc (enS lots.flatten))
theorem f_unionP (tx : Tx W) : Df W 2 "union_of" (spP W.K 1 S_unionP) := by
  obtain ⟨f, fd, ps, G, hm, kp, bn⟩ := f_union tx
  have up : ∀ vs H Q E, spP W.K 1 S_unionP vs H Q E → spX W.K W.mg 1 S_union vs H Q E := fun vs H Q E ⟨B, ds, R, hl, le, m, ⟨lots, e, hz, hk, r⟩, q⟩ =>
    ⟨B, ds, R, fun _ => False, hl, le, m, ⟨lots, e, hz, fun _ => r, fun n => absurd hk n⟩, q, fun _ _ _ _ _ _ _ z => z.elim⟩
  exact ⟨f, fd, ps, ⟨fun vs H Q E h => G.lenOk vs H Q E (up _ _ _ _ h), fun A outer st H ar us vs Q E hr hg e0 hb r h => G.runs A outer st H ar us vs Q E hr hg e0 hb r (up _ _ _ _ h)⟩, hm, kp, bn⟩
def lotO (l : List Item) : O := O.ls (l.map dIt)
def lotD (l : List Item) : D := .lst (l.map dIt)
theorem toDs_lots : ∀ L : List (List Item), O.toDs (L.map lotO) = L.map lotD
  | [] => rfl
  | l :: L => by
    show (lotO l).toD :: O.toDs (L.map lotO) = _
    rw [toDs_lots L]
    show (O.ls (l.map dIt)).toD :: _ = _
    rw [toD_ls]
    rfl
theorem flat_bound {α : Type} {c : Nat} : ∀ {ls : List (List α)}, (∀ l ∈ ls, l.length ≤ c) → ls.flatten.length ≤ ls.length * c
  | [], _ => by simp
  | l :: ls, h => by
    have h1 := h l List.mem_cons_self
    have h2 := flat_bound fun m hm => h m (List.mem_cons_of_mem _ hm)
    rw [List.flatten_cons, List.length_append, List.length_cons, Nat.add_mul]
    omega
theorem addS_has (l : List Item) (it : Item) : ∃ x ∈ addS l it, x.1 = it.1 := by
  by_cases h : ∃ x ∈ l, x.1 = it.1
  · obtain ⟨x, hx, e⟩ := h
    refine ⟨it, ?_, rfl⟩
    unfold addS
    rw [if_pos (List.any_eq_true.mpr ⟨x, hx, decide_eq_true e⟩)]
    exact List.mem_map.mpr ⟨x, hx, if_pos e⟩
  · have n : ∀ x ∈ l, x.1 ≠ it.1 := fun x hx z => h ⟨x, hx, z⟩
    rw [addS_new n]
    exact ⟨it, by simp, rfl⟩
theorem twice_len (it : Item) : ∀ L : List (List Item), (L.map fun l => addS l it).flatten.length ≤ L.flatten.length + L.length
  | [] => by simp
  | l :: L => by
    have h1 := addS_len l it
    have h2 := twice_len it L
    rw [List.map_cons, List.flatten_cons, List.flatten_cons, List.length_append, List.length_append, List.length_cons]
    omega
theorem twice_not {L : List (List Item)} {it : Item} (h : 2 ≤ L.length) : ¬ Keyed (L.map fun l => addS l it).flatten := by
  match L, h with
  | a :: b :: L, _ =>
    intro z
    obtain ⟨x, hx, ex⟩ := addS_has a it
    obtain ⟨y, hy, ey⟩ := addS_has b it
    have z' : ((addS a it).map (·.1) ++ ((addS b it).map (·.1) ++ ((L.map fun l => addS l it).flatten).map (·.1))).Nodup := by
      have := z
      unfold Keyed at this
      simpa using this
    exact (List.nodup_append.mp z').2.2 x.1 (List.mem_map.mpr ⟨x, hx, rfl⟩) y.1 (List.mem_append_left _ (List.mem_map.mpr ⟨y, hy, rfl⟩)) (ex.trans ey.symm)
structure QI (its : List Item) (kd : Str) (v : List Int) (n : Nat) (s : Sv) : Prop where
  di : DI its
  gv : GV v its
  kd : KD kd
  dep : s.dep ≤ 4
  n1 : 1 ≤ n
  n2 : n ≤ 400
def S_unionR : Sg := fun ds R => ∃ (its : List Item) (kd : Str) (v : List Int) (n : Nat) (s : Sv), ds = [.lst (its.map dIt), dSt its, dQ kd v n s] ∧ QI its kd v n s ∧ R (.val (.bl true))
theorem b_unionR (tx : Tx W) (hb : Bc W X ⟨k + 6, n__law_union_right, defScope s__law_union_right, fun _ => true⟩) (ho : Own X) (ds : List D) (R : O → Prop) (_ : ds.length = 3) (h : S_unionR ds R) :
    WSs X (defBody s__law_union_right) (begin0 n__law_union_right 4 (.bor IH :: ds.map Slot.v)) { nx := fun _ => R (.val .non), rt := R } := by
  have g1 := tx.g_tuple
  have g3 := tx.g_len
  have g5 := tx.g_int
  have g6 := tx.g_range
  obtain ⟨its, kd, v, n, s, rfl, qi, r⟩ := h
  obtain ⟨di, gv, hkd, hdep, n1, n2⟩ := qi
  have hlen := di.len
  have hpos := di.pos
  have d1 : 1 ≤ k + 6 := by omega
  have d2 : 2 ≤ k + 6 := by omega
  have d6 : 6 ≤ k + 6 := by omega
  refine wss_cons <| ws_par3 hb 4 5 6 <| plo_cons <| PP.po <| pp_op <| pp_int <| pp_callB hb tx.calm 0 (f_draw tx) rfl (pl1 <| pp_int ⟨rfl, _, rfl, by decide, by decide, fun p0 p1 p2 => o_add <| plo_cons <| PP.po <| pp_op <| pp_int <| pp_callB hb tx.calm 0 (f_draw tx) rfl (pl1 <| pp_int ⟨rfl, _, rfl, by decide, by decide, fun t t0 t1 => o_add <| plo_cons <| PP.po <| pp_callB hb tx.calm 0 (f_draw tx) rfl (pl1 <| pp_int ⟨rfl, _, rfl, by decide, by decide, fun f f0 f1 => plo_nil ⟨_, _, _, rfl, ?_⟩⟩) d1⟩) d1⟩) d1
  obtain ⟨parts, eP, q1, q2⟩ : ∃ parts : Nat, 1 + p0 = (parts : Int) ∧ 1 ≤ parts ∧ parts ≤ 40 := ⟨(1 + p0).toNat, by omega, by omega, by omega⟩
  rw [eP]
  refine wss_cons <| ws_all (ws_setLc hb tx.calm [("part", 8)] 7 (pit_any <| pit_rng1 hb <| pl1 <| pp_nm hb rfl ⟨(parts : Int), rfl, by omega, by omega, ?_⟩)) (fun _ _ _ => trivial)
  refine ⟨by rw [rngD_len]; exact szN (by omega), fun i acc => acc = List.replicate i (O.ls []), rfl, fun acc e => ?_, fun i d acc hd e hl => ⟨_, fun X' hb' => pgd_name hb' 8 (by simp) rfl, fun z => z = true, fun X' hb' => pts_no rfl, (fun z => nomatch z), fun _ X' hb' => po_lst <| pl_nil ⟨Nat.zero_le _, ?_⟩⟩⟩
  case refine_2 =>
    show acc ++ [O.ls []] = List.replicate (i + 1) (O.ls [])
    rw [List.replicate_succ', show acc = List.replicate i (O.ls []) from e]
  rw [rngD_len] at e
  have e' : acc = (List.replicate parts ([] : List Item)).map lotO := by
    rw [e, List.map_replicate]
    rfl
  subst e'
  let G : List (List Item) → List Dn.Slot := fun L => [.bor IH, .v (.lst (its.map dIt)), .v (dSt its), .v (dQ kd v n s), .v (.int parts), .v (.int (1 + t)), .v (.int f), .own (.lst (L.map lotO)), .no, .no, .no, .no, .no, .no, .no, .no, .no, .no]
  refine wss_cut (fun Γ' => ∃ L : List (List Item), Γ' = G L ∧ L.length = parts ∧ L.flatten.Perm its) (ws_for hb ho <| pit_rng1 hb <| pl1 <| pp_cl hb (id := "len") <| pl1 <| pp_nm hb rfl <| l_len ⟨_, rfl, by rw [List.length_map]; omega, by rw [List.length_map]; omega, fun i Γ' => ∃ L : List (List Item), Γ' = G L ∧ L.length = parts ∧ L.flatten.Perm (its.take i), ⟨_, rfl, by simp, by simp⟩, fun Γ' h => ?_, fun i d Γ' hd h => ?_⟩) fun Γ' h => ?_
  · rw [rngD_len] at h
    simpa using h
  · obtain ⟨hi, rfl⟩ := rngD_get hd
    have hi' : i < its.length := by simpa using hi
    obtain ⟨L, rfl, hL, pm⟩ := h
    rw [Int.zero_add]
    have tp0 := Int.emod_nonneg ((1 + t) * (i : Int) + f) (b := (parts : Int)) (by omega)
    have tp1 := Int.emod_lt_of_pos ((1 + t) * (i : Int) + f) (b := (parts : Int)) (by omega)
    obtain ⟨l, ql⟩ : ∃ l, L[(((1 + t) * (i : Int) + f) % (parts : Int)).toNat]? = some l := ⟨_, List.getElem?_eq_getElem (by omega)⟩
    obtain ⟨it, qi⟩ : ∃ it, its[i]? = some it := ⟨_, List.getElem?_eq_getElem hi'⟩
    have ll : l.length ≤ 400 := by
      have h1 : l.Sublist L.flatten := List.sublist_flatten_of_mem (List.mem_of_getElem? ql)
      have := h1.length_le
      have := pm.length_eq
      rw [List.length_take] at this
      omega
    refine pgd_name hb 9 trivial ?_
    refine wss_cons <| ws_appAt hb 7 rfl <| pp_op <| pp_ty hb (id := "int") <| pl1 <| pp_op <| pp_op <| pp_nm hb rfl <| pp_nm hb rfl <| o_mul (.inl ⟨by omega, by omega⟩) <| pp_nm hb rfl <| o_add <| i_int <| pp_nm hb rfl <| o_mod (by omega) ⟨_, l.map dIt, rfl, tp0, ?_, ?_, pp_ix <| pp_nm hb rfl <| pp_nm hb rfl <| ix_lst (d := dIt it) (Dn.atI_nat (by rw [List.getElem?_map, qi]; rfl)) (wss_end [9] ⟨L.set (((1 + t) * (i : Int) + f) % (parts : Int)).toNat (l ++ [it]), ?_, by simpa using hL, ?_⟩)⟩
    · rw [List.getElem?_map, ql]
      rfl
    · refine Nat.lt_of_le_of_lt (?_ : _ ≤ 1000) (Nat.lt_of_lt_of_le (by decide) (Nat.le_of_lt line6))
      rw [List.length_map]
      omega
    · show ([.bor IH, .v (.lst (its.map dIt)), .v (dSt its), .v (dQ kd v n s), .v (.int parts), .v (.int (1 + t)), .v (.int f), .own (.lst ((L.map lotO).set _ (O.ls (l.map dIt ++ [dIt it])))), .no, .no, .no, .no, .no, .no, .no, .no, .no, .no] : List Dn.Slot) = _
      have : (L.map lotO).set (((1 + t) * (i : Int) + f) % (parts : Int)).toNat (O.ls (l.map dIt ++ [dIt it])) = (L.set (((1 + t) * (i : Int) + f) % (parts : Int)).toNat (l ++ [it])).map lotO := by
        rw [List.map_set]
        congr 1
        show _ = O.ls ((l ++ [it]).map dIt)
        rw [List.map_append]
        rfl
      rw [this]
    · refine (set_perm ql).trans ?_
      rw [List.take_succ, qi]
      exact pm.append_right _
  obtain ⟨L, rfl, hL, pm⟩ := h
  have keyedF : Keyed L.flatten := keyed_perm pm.symm di.keyed
  have mem : ∀ l ∈ L, ∀ it ∈ l, it ∈ its := fun l hl it hit => pm.mem_iff.mp (List.mem_flatten.mpr ⟨l, hl, hit⟩)
  have keyedL : ∀ l ∈ L, Keyed l := fun l hl => keyedF.sublist (List.Sublist.map _ (List.sublist_flatten_of_mem hl))
  have lenL : ∀ l ∈ L, l.length ≤ 400 := fun l hl => by
    have := (List.sublist_flatten_of_mem hl).length_le
    have := pm.length_eq
    omega
  refine wss_frz 7 rfl ?_
  show WSs X _ ((G L).set 7 (.v (.lst (O.toDs (L.map lotO))))) _
  rw [toDs_lots]
  refine wss_cons <| ws_all (ws_setLc hb tx.calm [("lot", 11)] 10 (pit_any <| pit_lst <| pp_nm hb rfl ⟨_, rfl, ?_⟩)) (fun _ _ _ => trivial)
  refine lc_mapB lotD dSt (szN (by omega)) ?_ fun l hl => ⟨_, fun X' hb' => pgd_name hb' 11 (by simp) rfl, fun X' hb' => pp_call hb' tx.calm (f_stateL tx) (pl1 <| pp_nm hb' rfl ⟨rfl, l, rfl, by have := lenL l hl; omega, ?_⟩) d1⟩
  case refine_2 =>
    show (O.dc (enS (stL l))).toD = dSt l
    rw [toD_dc, stL_keyed (keyedL l hl)]
    rfl
  refine wss_frz 10 rfl ?_
  rw [toD_ls]
  refine wss_cons <| ws_all (ws_setLc hb tx.calm [("lot", 11)] 12 (pit_any <| pit_lst <| pp_nm hb rfl ⟨_, rfl, ?_⟩)) (fun _ _ _ => trivial)
  refine lc_mapB lotD (fun l => .lst (((prsL kd v s l).take n).map dPr)) (szN (by omega)) ?_ fun l hl => ⟨_, fun X' hb' => pgd_name hb' 11 (by simp) rfl, fun X' hb' => pp_slL <| pp_call hb' tx.calm (f_pairsL tx) (pl4 <| pp_nt hb' rfl atI0 <| pp_nt hb' rfl atI1 <| pp_nt hb' rfl atI3 <| pp_nm hb' rfl ⟨rfl, kd, v, s, l, rfl, hkd, hdep, by have := lenL l hl; omega, ⟨gv.1, gv.2.1, gv.2.2.1, fun it hit => gv.2.2.2 it (mem l hl it hit)⟩, _, rfl, pp_nt hb' rfl atI2 ⟨(n : Int), rfl, ?_⟩⟩) d6⟩
  case refine_2 =>
    show D.lst (cutD (List.map dPr (prsL kd v s l)) none (some (n : Int))) = D.lst (List.map dPr (List.take n (prsL kd v s l)))
    rw [cutTo, List.map_take]
  refine wss_frz 12 rfl ?_
  rw [toD_ls]
  refine wss_cons <| ws_set hb 13 <| PP.po <| pp_ty hb (id := "tuple") <| pl1 <| pp_slL <| pp_call hb tx.calm (f_pairsL tx) (pl4 <| pp_nt hb rfl atI0 <| pp_nt hb rfl atI1 <| pp_nt hb rfl atI3 <| pp_nm hb rfl ⟨rfl, kd, v, s, its, rfl, hkd, hdep, by omega, gv, _, rfl, pp_nt hb rfl atI2 ⟨(n : Int), rfl, l_tuple ?_⟩⟩) d6
  rw [cutTo, ← List.map_take]
  have pmK := same_perm di.keyed pm fun it hit => di.small it (pm.mem_iff.mp hit)
  refine wss_cons <| ws_if <| pb_cmp <| PP.pr <| pp_call hb tx.calm (f_unionP tx) (pl1 <| pp_ty hb (id := "tuple") <| pl1 <| pp_nm hb rfl <| l_tuple ⟨rfl, L, rfl, by have := pm.length_eq; omega, keyedF, ?_⟩) d2
  dsimp only
  rw [toD_dc]
  refine rd_nm hb rfl <| c_neSame hb pmK <| iFF <| wss_nil ?_
  have sp := prsL_sp di.keyed (fun it hit => (di.key it hit).1) kd v s
  have sa : Sa (.tup (((prsL kd v s its).take n).map dPr)) := by
    refine sa_of (wtP (by simp; omega) fun p hp => ?_) (by decide) (by decide)
    obtain ⟨it, hit, rfl⟩ := prsL_mem (List.mem_of_mem_take hp)
    exact ⟨dist_lt kd gv.1 (gv.2.2.2 it hit).1 gv.2.2.1, (di.small it hit).key⟩
  refine wss_cons <| ws_if <| pb_same tx hb (pp_call hb tx.calm (f_first tx) (pl2 <| pp_ty hb (id := "tuple") <| pl1 <| pp_lc hb tx.calm [("some", 14)] <| pit_lst <| pp_nm hb rfl ⟨_, rfl, ?_⟩) d1) d1
  refine lp_mapB (fun l => .lst (((prsL kd v s l).take n).map dPr)) (fun l => .tup (((prsL kd v s l).take n).map dPr)) (szN (by omega)) (l_tuple ?_) fun l hl => ⟨_, fun X' hb' => pgd_name hb' 14 (by simp) rfl, fun X' hb' => pp_ty hb' (id := "tuple") <| pl1 <| pp_nm hb' rfl <| l_tuple rfl⟩
  refine pp_nt hb rfl atI2 ⟨rfl, L.map fun l => (prsL kd v s l).take n, n, ?_, ?_, ?_⟩
  · rw [List.map_map]
    rfl
  · have := flat_bound (c := 400) (ls := L.map fun l => (prsL kd v s l).take n) fun m hm => by
      obtain ⟨l, hl, rfl⟩ := List.mem_map.mp hm
      rw [List.length_take]
      omega
    rw [List.length_map] at this
    omega
  · rw [lots_first di.keyed pm]
    refine pp_nm hb rfl ⟨rfl, sa, iFF <| wss_nil ?_⟩
    refine wss_cons <| ws_set hb 15 <| PP.po <| pp_callB hb tx.calm 0 (f_pick tx) rfl (pl1 <| pp_nm hb rfl ⟨rfl, _, rfl, by simpa using hpos, by simp; omega, fun d hd => ?_⟩) d2
    obtain ⟨it, hit, rfl⟩ := List.mem_map.mp hd
    refine wss_cons <| ws_all (ws_setLc hb tx.calm [("lot", 11)] 16 (pit_any <| pit_lst <| pp_nm hb rfl ⟨_, rfl, ?_⟩)) (fun _ _ _ => trivial)
    refine lc_mapB lotD (fun l => dSt (addS l it)) (szN (by omega)) ?_ fun l hl => ⟨_, fun X' hb' => pgd_name hb' 11 (by simp) rfl, fun X' hb' => pp_call hb' tx.calm (f_stateL tx) (pl1 <| pp_op <| pp_nm hb' rfl <| PO.pp <| po_lst <| pl_cons <| pp_nm hb' rfl <| pl_nil ⟨szN (by simp), ?_⟩) d1⟩
    case refine_2 =>
      rw [toD_ls]
      have := lenL l hl
      refine o_catL (by rw [List.length_map]; exact szN (by simp; omega)) ⟨rfl, l ++ [it], by rw [List.map_append]; rfl, by simp; omega, ?_⟩
      show (O.dc (enS (stL (l ++ [it])))).toD = dSt (addS l it)
      rw [toD_dc]
      have e : stL (l ++ [it]) = addS l it := by
        unfold stL
        rw [List.foldl_append]
        show addS (stL l) it = _
        rw [stL_keyed (keyedL l hl)]
      rw [e]
      rfl
    refine wss_frz 16 rfl ?_
    rw [toD_ls]
    refine wss_cons <| ws_if <| pb_lI <| pp_nm hb rfl ⟨_, rfl, pp_int ⟨_, rfl, iD (fun _ => wss_cons <| ws_retP <| pp_bl r) fun e2 => wss_nil ?_⟩⟩
    obtain ⟨C, fI, cc, cda, T1, T2, T3⟩ := tx.X_Refused
    refine wss_cons <| ws_try hb tx.calm ho 17 T1.gC (fun c b => c = "Refused" ∧ b = true) (fun c C' b ⟨e1, e3⟩ hc => ?_) fun X' hb' ho' => ?_
    · subst e1 e3
      rw [T1.gC] at hc
      cases hc
      exact T3
    refine wss_cons <| ws_dropX <| pox_call hb' tx.xs (f_union tx) (pl1 <| pp_ty hb' (id := "tuple") <| pl1 <| pp_nm hb' rfl <| l_tuple ⟨rfl, L.map fun l => addS l it, by rw [List.map_map]; rfl, ?_, fun z => absurd z (twice_not (by omega)), fun _ => ⟨true, ⟨rfl, rfl⟩, ?_⟩⟩) d2
    · have := twice_len it L
      have := pm.length_eq
      omega
    · rw [if_pos rfl]
      exact su_retEq hb 17 tx.X_Refused (by rw [decide_eq_true rfl]; exact r) (by simp [G])
theorem f_unionR (tx : Tx W) : Df W 7 "_law_union_right" (spB W.K IH 3 S_unionR) := d__law_union_right (fun f fd F m bn => Df.mkB tx.calm F m c__law_union_right rfl bn fun X hb ho ds R hl h => b_unionR (k := 0) tx hb ho ds R hl h) tx.F__law_union_right
end T

/-! K84ze: the law. -/
namespace T
open PySem PySem.Spec L2 RZ Dn
variable {W : Wd} {X : Cx} {k : Nat}
def NamesOk (names : List Str) : Prop := names.length ≤ 8 ∧ ∀ x ∈ names, PyData.strOk x = true ∧ 10 * x.length + 2 ≤ 82
theorem gi_wi {names : List Str} {places : Nat} {it : Item} (hn : NamesOk names) (hp : places ≤ 8) (g : GI names places it) : WI it := by
  refine ⟨by have := g.key; omega, ⟨31, fun d hd => ?_, ?_⟩, ⟨171, fun d hd => ?_, ?_⟩⟩
  · obtain ⟨x, hx, rfl⟩ := List.mem_map.mp hd
    have := g.near x hx
    exact ⟨Nat.lt_of_lt_of_le this (by decide), Nat.le_refl _⟩
  · rw [List.length_map, g.len]
    omega
  · obtain ⟨p, hp, rfl⟩ := List.mem_map.mp hd
    obtain ⟨h1, h2⟩ := g.lbs.2 p hp
    obtain ⟨h3, h4⟩ := hn.2 p.1 h1
    refine ⟨82, fun e he => ?_, by simp⟩
    have he' : e = .str p.1 ∨ e = .int p.2 := by simpa using he
    rcases he' with rfl | rfl
    · exact ⟨h3, h4⟩
    · exact ⟨Nat.lt_of_lt_of_le h2 (by decide), by decide⟩
  · have := g.lbs.1
    have := hn.1
    rw [List.length_map]
    omega
def nms (i : Nat) : List Str := match i with
  | 0 => []
  | 1 => ["new"]
  | 2 => ["a", "new", "old"]
  | _ => ["a", "b", "new", "old", "red", "size", "tall", "zzzzzzzz"]
theorem nms_ok : ∀ i, NamesOk (nms i)
  | 0 => ⟨by decide, fun _ z => nomatch z⟩
  | 1 => ⟨by decide, by decide +kernel⟩
  | 2 => ⟨by decide, by decide +kernel⟩
  | n + 3 => ⟨by show 8 ≤ 8; decide, by show ∀ x ∈ (["a", "b", "new", "old", "red", "size", "tall", "zzzzzzzz"] : List Str), _; decide +kernel⟩
def S_law : Sg := fun ds R => ∃ ns : List Int, ds = [.scr ns] ∧ R (.val (.bl true))
theorem b_law (tx : Tx W) (hb : Bc W X ⟨k + 12, n_law, defScope s_law, fun _ => true⟩) (ho : Own X) (ds : List D) (R : O → Prop) (_ : ds.length = 1) (h : S_law ds R) :
    WSs X (defBody s_law) (begin0 n_law 1 (ds.map Slot.v)) { nx := fun _ => R (.val .non), rt := R } := by
  have g1 := tx.g_tuple
  have g3 := tx.g_len
  obtain ⟨ns, rfl, r⟩ := h
  have d1 : 1 ≤ k + 12 := by omega
  have d2 : 2 ≤ k + 12 := by omega
  refine wss_cons <| ws_set hb 1 <| po_call hb tx.calm (f_heap tx) (pl1 <| pp_nm hb rfl ⟨rfl, ns, rfl, fun o hI => ?_⟩) d1
  refine wss_lend 1 rfl hI (fun j o' hj h => ?_) (fun j I' h => ?_) ?_
  · match j, hj, h with
    | 0, _, h => cases h; exact ⟨_, rfl⟩
    | 2, _, h => cases h
    | 3, _, h => cases h
    | 4, _, h => cases h
    | 5, _, h => cases h
    | 6, _, h => cases h
    | 7, _, h => cases h
    | 8, _, h => cases h
    | 9, _, h => cases h
  · match j, h with
    | 0, h => cases h
    | 1, h => cases h
    | 2, h => cases h
    | 3, h => cases h
    | 4, h => cases h
    | 5, h => cases h
    | 6, h => cases h
    | 7, h => cases h
    | 8, h => cases h
    | 9, h => cases h
  refine wss_cons <| ws_par hb 2 3 <| plo_cons <| PP.po <| pp_callB hb tx.calm 1 (f_pick tx) rfl (pl1 <| PO.pp <| po_lst <| pl_cons <| pp_str <| pl_cons <| pp_str <| pl_cons <| pp_str <| pl_cons <| pp_str <| pl_nil ⟨szN (by simp), rfl, [.str "square", .str "sum", .str "most", .str "unlike"], rfl, by decide, by decide, fun d hd => ?_⟩) d2
  obtain ⟨kd, rfl, hk⟩ : ∃ kd, d = .str kd ∧ KD kd := by
    simp only [List.mem_cons, List.not_mem_nil, or_false] at hd
    rcases hd with rfl | rfl | rfl | rfl
    · exact ⟨_, rfl, .inl rfl⟩
    · exact ⟨_, rfl, .inr (.inl rfl)⟩
    · exact ⟨_, rfl, .inr (.inr (.inl rfl))⟩
    · exact ⟨_, rfl, .inr (.inr (.inr rfl))⟩
  refine plo_cons <| PP.po <| pp_callB hb tx.calm 1 (f_pick tx) rfl (pl1 <| PO.pp <| po_lst <| pl_cons <| pp_int <| pl_cons <| pp_int <| pl_cons <| pp_int <| pl_cons <| pp_int <| pl_cons <| pp_int <| pl_nil ⟨szN (by simp), rfl, [.int 1, .int 2, .int 2, .int 3, .int 8], rfl, by decide, by decide, fun d hd => ?_⟩) d2
  obtain ⟨places, rfl, l0, l1⟩ : ∃ m : Nat, d = .int m ∧ 1 ≤ m ∧ m ≤ 8 := by
    simp only [List.mem_cons, List.not_mem_nil, or_false] at hd
    rcases hd with rfl | rfl | rfl | rfl | rfl
    · exact ⟨1, rfl, by decide, by decide⟩
    · exact ⟨2, rfl, by decide, by decide⟩
    · exact ⟨2, rfl, by decide, by decide⟩
    · exact ⟨3, rfl, by decide, by decide⟩
    · exact ⟨8, rfl, by decide, by decide⟩
  refine plo_nil ⟨_, _, rfl, ?_⟩
  refine wss_cons <| ws_set hb 4 <| PP.po <| pp_callB hb tx.calm 1 (f_pick tx) rfl (pl1 <| PO.pp <| po_lst <| pl_cons <| pp_int <| pl_cons <| pp_int <| pl_cons <| pp_int <| pl_cons <| pp_int <| pl_cons <| pp_int <| pl_cons <| pp_int <| pl_nil ⟨szN (by simp), rfl, [.int 24, .int 60, .int 150, .int 399, .int 400, .int 400], rfl, by decide, by decide, fun d hd => ?_⟩) d2
  obtain ⟨many, rfl, m0, m1⟩ : ∃ m : Nat, d = .int m ∧ 24 ≤ m ∧ m ≤ 400 := by
    simp only [List.mem_cons, List.not_mem_nil, or_false] at hd
    rcases hd with rfl | rfl | rfl | rfl | rfl | rfl
    · exact ⟨24, rfl, by decide, by decide⟩
    · exact ⟨60, rfl, by decide, by decide⟩
    · exact ⟨150, rfl, by decide, by decide⟩
    · exact ⟨399, rfl, by decide, by decide⟩
    · exact ⟨400, rfl, by decide, by decide⟩
    · exact ⟨400, rfl, by decide, by decide⟩
  have z1 : ∀ n : Nat, n ≤ 8 → n ≤ sizeLine := fun n h => szN (by omega)
  refine wss_cons <| ws_set hb 5 <| PP.po <| pp_ix <| PO.pp <| po_lst <| pl_cons (PO.pp <| po_lst <| pl_nil ⟨z1 _ (by decide), ?_⟩)
  refine pl_cons <| PO.pp <| po_lst <| pl_cons <| pp_str <| pl_nil ⟨z1 _ (by decide), ?_⟩
  refine pl_cons <| PO.pp <| po_lst <| pl_cons <| pp_str <| pl_cons <| pp_str <| pl_cons <| pp_str <| pl_nil ⟨z1 _ (by decide), ?_⟩
  refine pl_cons <| PO.pp <| po_lst <| pl_cons <| pp_str <| pl_cons <| pp_str <| pl_cons <| pp_str <| pl_cons <| pp_str <| pl_cons <| pp_str <| pl_cons <| pp_str <| pl_cons <| pp_str <| pl_cons <| pp_str <| pl_nil ⟨z1 _ (by decide), ?_⟩
  refine pl_nil ⟨z1 _ (by decide), ?_⟩
  refine pp_callB hb tx.calm 1 (f_draw tx) rfl (pl1 <| pp_int ⟨rfl, _, rfl, by decide, by decide, fun q q0 q1 => ?_⟩) d1
  obtain ⟨qn, eq, hq⟩ : ∃ qn : Nat, q = qn ∧ qn < 4 := ⟨q.toNat, by omega, by omega⟩
  subst eq
  refine ix_lst (d := .lst ((nms qn).map .str)) (Dn.atI_nat ?_) ?_
  · match qn, hq with
    | 0, _ => rfl
    | 1, _ => rfl
    | 2, _ => rfl
    | 3, _ => rfl
  have nok := nms_ok qn
  generalize nms qn = names at nok
  refine wss_cons <| ws_set hb 6 <| po_callB hb tx.calm 1 (f_items tx) rfl (pl3 <| pp_nm hb rfl <| pp_nm hb rfl <| pp_nm hb rfl ⟨rfl, many, places, names, rfl, by omega, m1, by omega, by have := nok.1; omega, fun its hl hky hg => ?_⟩) (by show 5 ≤ k + 12; omega)
  refine wss_frz 6 rfl ?_
  rw [toD_ls]
  have small : ∀ it ∈ its, WI it := fun it hit => gi_wi nok l1 (hg it hit)
  have ek := doneAll_puts hky
  refine wss_cons <| ws_par hb 7 8 <| plo_cons <| po_call hb tx.calm (f_state_of tx) (pl1 <| pp_ty hb (id := "tuple") <| pl1 <| pp_nm hb rfl <| l_tuple ⟨rfl, its, rfl, by omega, ?_⟩) (by show 4 ≤ k + 12; omega)
  rw [ek]
  refine plo_cons <| PP.po <| pp_callB hb tx.calm 1 (f_sieve tx 3) rfl (pl2 <| PO.pp <| po_lst <| pl_cons <| pp_str <| pl_cons <| pp_str <| pl_cons <| pp_str <| pl_cons <| pp_str <| pl_nil ⟨z1 _ (by decide), ?_⟩) (by show 6 ≤ k + 12; omega)
  refine pp_callB hb tx.calm 1 (f_draw tx) rfl (pl1 <| pp_int ⟨rfl, _, rfl, by decide, by decide, fun q q0 q1 => ?_⟩) d1
  obtain ⟨dn, eq, hq⟩ : ∃ qn : Nat, q = qn ∧ qn < 4 := ⟨q.toNat, by omega, by omega⟩
  subst eq
  refine ⟨rfl, ["a", "new", "old", "zzzzzzzz"], dn, rfl, by omega, by decide, fun s hs => plo_nil ⟨_, _, rfl, ?_⟩⟩
  refine wss_cons <| ws_if <| pb_c <| pc_o <| pb_cmp <| rd_nm hb rfl <| PO.pr <| po_call hb tx.calm (f_stateL tx) (pl1 <| pp_nm hb rfl ⟨rfl, its, rfl, by omega, ?_⟩) d1
  dsimp only
  rw [toD_dc, stL_keyed hky]
  refine c_neSame hb (same_perm hky (.refl _) small) <| iFF <| pc_o1 <| pb_nI <| pp_cl hb (id := "len") <| pl1 <| pp_nm hb rfl <| d_lenD ⟨_, rfl, pp_nm hb rfl ⟨_, rfl, iN (fun z => absurd (by rw [List.length_map]; omega) z) fun _ => wss_nil ?_⟩⟩
  refine wss_cons <| ws_set hb 9 <| PP.po <| pp_callB hb tx.calm 1 (f_vectorL tx) rfl (pl2 <| pp_nm hb rfl <| pp_nm hb rfl ⟨rfl, its, places, rfl, by omega, by omega, by omega, fun it hit => ⟨(hg it hit).len, (hg it hit).near⟩, fun v vl vn => ?_⟩) (by show 3 ≤ k + 12; omega)
  have gv : GV v its := ⟨vn, by omega, by omega, fun it hit => ⟨(hg it hit).near, by rw [(hg it hit).len, vl], by have := (hg it hit).lbs.1; have := nok.1; omega⟩⟩
  have di : DI its := ⟨hky, by omega, by omega, fun it hit => (hg it hit).key, small⟩
  refine wss_cons <| ws_if <| pb_c <| pc_o <| pb_not <| pb_val <| pp_callB hb tx.calm 1 (f_answers tx) rfl (pl_cons <| pp_nm hb rfl <| pl4 <| pp_nm hb rfl <| pp_nm hb rfl <| pp_nm hb rfl <| pp_nm hb rfl ⟨rfl, its, s, v, kd, rfl, ⟨hky, by omega, by omega, fun it hit => (hg it hit).key⟩, by omega, gv, by omega, hk, true, rfl, iFF ?_⟩) (by show 12 ≤ k + 12; omega)
  refine pc_o1 <| pb_not <| pb_val <| pp_callB hb tx.calm 1 (f_deeds tx) rfl (pl2 <| pp_nm hb rfl <| pp_nm hb rfl ⟨rfl, its, rfl, di, true, rfl, iFF <| wss_nil ?_⟩) (by show 4 ≤ k + 12; omega)
  refine wss_cons <| ws_ret <| po_callB hb tx.calm 1 (f_unionR tx) rfl (pl3 <| pp_nm hb rfl <| pp_nm hb rfl <| pp_tup <| pl4 <| pp_nm hb rfl <| pp_nm hb rfl <| pp_op <| pp_int <| pp_callB hb tx.calm 1 (f_draw tx) rfl (pl1 <| pp_int ⟨rfl, _, rfl, by decide, by decide, fun q q0 q1 => o_add <| pp_nm hb rfl ⟨szN (by simp), ?_⟩⟩) d1) (by show 7 ≤ k + 12; omega)
  refine ⟨rfl, its, kd, v, (1 + q).toNat, s, ?_, ⟨di, gv, hk, by omega, by omega, by omega⟩, r⟩
  have : (1 + q) = (((1 + q).toNat : Nat) : Int) := by omega
  unfold dQ
  rw [← this]
  rfl
theorem f_law (tx : Tx W) : Df W 13 "law" (spP W.K 1 S_law) := d_law (fun f fd F m bn => Df.mkP tx.calm F m c_law rfl bn fun X hb ho ds R hl h => b_law (k := 0) tx hb ho ds R hl h) tx.F_law
end T

namespace T
open PySem PySem.Spec PySem.W PyProof.Rows L2 Dn
/-- a def as the top has written it -/
def FK (K : Frag) (x : Str) (st : Stmt) : Prop := ∃ (f : Addr) (oc : Value) (od : Option Addr) (kV doc pm : Value) (an : Option Addr) (cdv ct : Value) (osl : Array (Option Value)),
  nsIn K mainGlobals x = some (some (.ref f)) ∧ K.lookup f = some ⟨oc, od, .func (fnOf x x (defArgs st) (defBody st) (defScope st) .none kV doc pm an cdv ct), osl⟩ ∧ codeIn K cdv x = true ∧ keepIn K (.ref f) = true
theorem FK.at {P : Program} {w : World} {K : Frag} {h : Heap} {mg : Str → Option Value} {base : Heap} {CX : CXT} {x : Str} {st : Stmt} (X : K.In h) (G : h.Ns mainGlobals mg) (F : FK K x st) : FAt ⟨P, w, K, mg, base, CX⟩ x st := by
  obtain ⟨f, oc, od, kV, doc, pm, an, cdv, ct, osl, a, l, c, kp⟩ := F
  exact ⟨f, _, fun_mk (st := st) l c kp, mg_of X G a⟩
/-- an own exception class as the top has written it -/
structure XK (P : Program) (K : Frag) (nm f : Str) : Prop where
  all : ∃ (C fI cc cda : Addr) (nm' q : Str) (N : Addr) (bs bm : List Value) (sn : List Str) (sub : List Value) (ab : Bool) (col : Option Bool) (dd : Option Addr) (k0 k1 k2 k3 k5 : Option Value)
    (cl : Value) (cld : Option Addr) (csl : Array (Option Value)) (ccl : Value) (cdd : Option Addr) (vs : Array Value) (ccs : Array (Option Value)) (file : Str) (tf : Tok)
    (oc : Value) (od : Option Addr) (qf : Str) (doc pm : Value) (an : Option Addr) (ct : Value) (osl : Array (Option Value)) (a1 a2 p0 p1 p2 p3 p4 p5 q1 q2 q3 q4 : Pos) (m : Str) (j : Nat),
    nsIn K mainGlobals nm = some (some (.ref C)) ∧ K.lookup C = some (excClassObj nm' q C N bs bm true sn sub ab col dd k0 k1 k2 k3 k5 "ValueError.__new__") ∧
    findIn K (.ref C) "__init__" = some (some (.ref fI)) ∧
    K.lookup fI = some ⟨oc, od, .func (ksFn "__init__" qf (Xm.xA a1 a2 f) (Xm.xB p0 p1 p2 p3 p4 p5 q1 q2 q3 q4 m f j) (Xm.xS f) .none .none doc pm an (.ref cda) ct cc), osl⟩ ∧
    K.lookup cc = some ⟨cl, cld, .cell (some (.ref C)), csl⟩ ∧ K.lookup cda = some ⟨ccl, cdd, .fields vs, ccs⟩ ∧ vs[2]? = some (.str file tf) ∧ ((P.main.file : Str) == file) = true ∧
    codeIn K (.ref cda) qf = true ∧ Xm.Hev p0 p1 p2 p3 p4 m j ∧ HandSPX.refsVE bm = true ∧
    findIn K (.ref C) "__setattr__" = some (some (.builtin "object.__setattr__")) ∧ findIn K (.ref C) "__getattribute__" = some (some (.builtin "BaseException.__getattribute__")) ∧ findIn K (.ref C) "__getattr__" = some none ∧ findIn K (.ref C) f = some none ∧
    typeIn K (.ref fI) = some (.type "function") ∧ keepIn K (.ref C) = true ∧ subIn K (.ref C) (.type "BaseException") = some true ∧ typeIn K (.ref C) = some (.type "type") ∧ subIn K (.ref C) (.type "ValueError") = some true ∧
    mroIn K C (.ref C) = some true ∧ hasDictIn K C = true ∧ isClsIn K C = true ∧ subIn K (.ref C) (.ref C) = some true ∧ ks_superIn K C C "__init__" = some (some (.builtin "ValueError.__init__"))
  stat : nsIn K cStatics "thirdparty.any" = some none
  sup : nsIn K mainGlobals "super" = some none
  top : (P.main.scope.names.lookup ("super" : Str)).isSome = false
  fs : (Xm.xS f).names.lookup f = some .local
  fd : (f == ("__debug__" : Str)) = false
  fself : f ≠ "self"
  fsup : (Xm.xS f).names.lookup ("super" : Str) = some .globalImplicit
  fcls : (Xm.xS f).names.lookup ("__class__" : Str) = some .free
  nocell : ∀ x ∈ (Xm.xS f).names, x.2 ≠ .cell
  bd : ∀ (q : Str) (a1 a2 : Pos) (B : List Stmt) (doc pm : Value) (an : Option Addr) (cd ct : Value) (cc : Addr) (x v : Value), bindArgs (ksFn "__init__" q (Xm.xA a1 a2 f) B (Xm.xS f) .none .none doc pm an cd ct cc) ⟨[x, v], []⟩ = pure [(("self" : Str), x), (f, v)]
theorem exm_own {K : Frag} {C : Addr} (h1 : subIn K (.ref C) (.type "BaseException") = some true) (h2 : isClsIn K C = true) (h3 : typeIn K (.ref C) = some (.type "type")) (h4 : subIn K (.ref C) (.ref C) = some true) : exmOne K (.ref C) (.ref C) = some true := by
  have e1 : (subIn K (.ref C) (.type "BaseException") == some true) = true := by rw [h1] <;> rfl
  have h2' : (clsIn K C).isSome = true := h2
  have e2 : ((clsIn K C).isSome && typeIn K (.ref C) == some (.type "type")) = true := by rw [h2', h3] <;> rfl
  show (if (subIn K (.ref C) (.type "BaseException") == some true) = true then (if ((clsIn K C).isSome && typeIn K (.ref C) == some (.type "type")) = true then subIn K (.ref C) (.ref C) else none) else none) = some true
  rw [if_pos e1, if_pos e2]
  exact h4
theorem XK.cls {P : Program} {w : World} {K : Frag} {h : Heap} {mg : Str → Option Value} {base : Heap} {CX : CXT} {nm f : Str} (X : K.In h) (G : h.Ns mainGlobals mg) (F : XK P K nm f) : XCls ⟨P, w, K, mg, base, CX⟩ nm f := by
  obtain ⟨C, fI, cc, cda, nm', q, N, bs, bm, sn, sub, ab, col, dd, k0, k1, k2, k3, k5, cl, cld, csl, ccl, cdd, vs, ccs, file, tf, oc, od, qf, doc, pm, an, ct, osl, a1, a2, p0, p1, p2, p3, p4, p5, q1, q2, q3, q4, m, j,
    e1, e2, e3, e4, e5, e6, e7, e8, e9, e10, e11, e12, e13, e14, e15, e16, e17, e18, e19, e20, e21, e22, e23, e24, e25⟩ := F.all
  exact ⟨C, fI, cc, cda, ⟨mg_of X G e1, ⟨_, _, _, _, _, _, _, _, _, _, _, _, _, _, _, e2, e11⟩, e12, e15, e3, e16, e17, e18, e19, e20, e21, F.stat, e25, mg_none_of X G F.sup, F.top, ⟨_, _, _, e5⟩, ⟨_, _, _, _, _, _, e6, e7, e8⟩,
    ⟨_, _, _, _, _, _, _, _, _, _, _, _, _, _, _, _, _, _, _, _, _, _, e4, e9, e10⟩, F.fs, F.fd, F.fself, F.fsup, F.fcls, F.nocell, F.bd⟩, ⟨e13, e14, e18, e22⟩, exm_own e18 e23 e19 e24⟩
theorem calm_own {P : Program} {w : World} {K : Frag} {mg : Str → Option Value} {base : Heap} : Wd.calm ⟨P, w, K, mg, base, L2.CX P w⟩ := fun st H s e s' h => by
  obtain ⟨_, _, _, _, _, _, _, _, _, _, _, _, z⟩ := (show L2.CX P w st H s (fun _ _ _ => False) e s' from h)
  exact z
theorem tx_mk {P : Program} {w : World} {K : Frag} {h : Heap} {mg : Str → Option Value} (X : K.In h) (G : h.Ns mainGlobals mg) (h_is_integer : FK K "is_integer" s_is_integer) (h_is_number : FK K "is_number" s_is_number) (h_are_numbers : FK K "are_numbers" s_are_numbers) (h_differences : FK K "differences" s_differences) (h_part_of : FK K "part_of" s_part_of) (h_joined_parts : FK K "joined_parts" s_joined_parts) (h_distance : FK K "distance" s_distance) (h_label_in : FK K "label_in" s_label_in) (h_lets_by : FK K "lets_by" s_lets_by) (h_passes : FK K "passes" s_passes) (h_deed_key : FK K "deed_key" s_deed_key) (h_done : FK K "done" s_done) (h_done_all : FK K "done_all" s_done_all) (h_state_of : FK K "state_of" s_state_of) (h_last_deeds : FK K "last_deeds" s_last_deeds) (h_deeds_between : FK K "deeds_between" s_deeds_between) (h_passing_keys : FK K "passing_keys" s_passing_keys) (h_pairs_from : FK K "pairs_from" s_pairs_from) (h_nearest : FK K "nearest" s_nearest) (h_within : FK K "within" s_within) (h_count_within : FK K "count_within" s_count_within) (h_reach_of : FK K "reach_of" s_reach_of) (h_rank_of : FK K "rank_of" s_rank_of) (h_union_of : FK K "union_of" s_union_of) (h_first_of_all : FK K "first_of_all" s_first_of_all) (h_is_pair : FK K "is_pair" s_is_pair) (h_answer_fault : FK K "answer_fault" s_answer_fault) (h__law_heap : FK K "_law_heap" s__law_heap) (h__law_draw : FK K "_law_draw" s__law_draw) (h__law_pick : FK K "_law_pick" s__law_pick) (h__law_joined : FK K "_law_joined" s__law_joined) (h__law_distance : FK K "_law_distance" s__law_distance) (h__law_row : FK K "_law_row" s__law_row) (h__law_vectors : FK K "_law_vectors" s__law_vectors) (h__law_keys : FK K "_law_keys" s__law_keys) (h__law_worths : FK K "_law_worths" s__law_worths) (h__law_labels : FK K "_law_labels" s__law_labels) (h__law_items : FK K "_law_items" s__law_items) (h__law_state : FK K "_law_state" s__law_state) (h__law_sieve : FK K "_law_sieve" s__law_sieve) (h__law_passes : FK K "_law_passes" s__law_passes) (h__law_pairs : FK K "_law_pairs" s__law_pairs) (h__law_vector : FK K "_law_vector" s__law_vector) (h__law_same : FK K "_law_same" s__law_same) (h__law_spoilt : FK K "_law_spoilt" s__law_spoilt) (h__law_answers_right : FK K "_law_answers_right" s__law_answers_right) (h__law_deeds_right : FK K "_law_deeds_right" s__law_deeds_right) (h__law_union_right : FK K "_law_union_right" s__law_union_right) (h_law : FK K "law" s_law) (x_Refused : XK P K "Refused" "word") (z_ValueError : nsIn K mainGlobals "ValueError" = some none) (z_abs : nsIn K mainGlobals "abs" = some none) (z_all : nsIn K mainGlobals "all" = some none) (z_any : nsIn K mainGlobals "any" = some none) (z_bool : nsIn K mainGlobals "bool" = some none) (z_dict : nsIn K mainGlobals "dict" = some none) (z_enumerate : nsIn K mainGlobals "enumerate" = some none) (z_int : nsIn K mainGlobals "int" = some none) (z_isinstance : nsIn K mainGlobals "isinstance" = some none) (z_len : nsIn K mainGlobals "len" = some none) (z_list : nsIn K mainGlobals "list" = some none) (z_max : nsIn K mainGlobals "max" = some none) (z_min : nsIn K mainGlobals "min" = some none) (z_range : nsIn K mainGlobals "range" = some none) (z_repr : nsIn K mainGlobals "repr" = some none) (z_set : nsIn K mainGlobals "set" = some none) (z_sorted : nsIn K mainGlobals "sorted" = some none) (z_sum : nsIn K mainGlobals "sum" = some none) (z_super : nsIn K mainGlobals "super" = some none) (z_tuple : nsIn K mainGlobals "tuple" = some none) (z_zip : nsIn K mainGlobals "zip" = some none) (base : Heap) : Tx ⟨P, w, K, mg, base, L2.CX P w⟩ where
  calm := calm_own
  xs := rfl
  X_Refused := x_Refused.cls X G
  F_is_integer := h_is_integer.at X G
  F_is_number := h_is_number.at X G
  F_are_numbers := h_are_numbers.at X G
  F_differences := h_differences.at X G
  F_part_of := h_part_of.at X G
  F_joined_parts := h_joined_parts.at X G
  F_distance := h_distance.at X G
  F_label_in := h_label_in.at X G
  F_lets_by := h_lets_by.at X G
  F_passes := h_passes.at X G
  F_deed_key := h_deed_key.at X G
  F_done := h_done.at X G
  F_done_all := h_done_all.at X G
  F_state_of := h_state_of.at X G
  F_last_deeds := h_last_deeds.at X G
  F_deeds_between := h_deeds_between.at X G
  F_passing_keys := h_passing_keys.at X G
  F_pairs_from := h_pairs_from.at X G
  F_nearest := h_nearest.at X G
  F_within := h_within.at X G
  F_count_within := h_count_within.at X G
  F_reach_of := h_reach_of.at X G
  F_rank_of := h_rank_of.at X G
  F_union_of := h_union_of.at X G
  F_first_of_all := h_first_of_all.at X G
  F_is_pair := h_is_pair.at X G
  F_answer_fault := h_answer_fault.at X G
  F__law_heap := h__law_heap.at X G
  F__law_draw := h__law_draw.at X G
  F__law_pick := h__law_pick.at X G
  F__law_joined := h__law_joined.at X G
  F__law_distance := h__law_distance.at X G
  F__law_row := h__law_row.at X G
  F__law_vectors := h__law_vectors.at X G
  F__law_keys := h__law_keys.at X G
  F__law_worths := h__law_worths.at X G
  F__law_labels := h__law_labels.at X G
  F__law_items := h__law_items.at X G
  F__law_state := h__law_state.at X G
  F__law_sieve := h__law_sieve.at X G
  F__law_passes := h__law_passes.at X G
  F__law_pairs := h__law_pairs.at X G
  F__law_vector := h__law_vector.at X G
  F__law_same := h__law_same.at X G
  F__law_spoilt := h__law_spoilt.at X G
  F__law_answers_right := h__law_answers_right.at X G
  F__law_deeds_right := h__law_deeds_right.at X G
  F__law_union_right := h__law_union_right.at X G
  F_law := h_law.at X G
  g_ValueError := mg_none_of X G z_ValueError
  g_abs := mg_none_of X G z_abs
  g_all := mg_none_of X G z_all
  g_any := mg_none_of X G z_any
  g_bool := mg_none_of X G z_bool
  g_dict := mg_none_of X G z_dict
  g_enumerate := mg_none_of X G z_enumerate
  g_int := mg_none_of X G z_int
  g_isinstance := mg_none_of X G z_isinstance
  g_len := mg_none_of X G z_len
  g_list := mg_none_of X G z_list
  g_max := mg_none_of X G z_max
  g_min := mg_none_of X G z_min
  g_range := mg_none_of X G z_range
  g_repr := mg_none_of X G z_repr
  g_set := mg_none_of X G z_set
  g_sorted := mg_none_of X G z_sorted
  g_sum := mg_none_of X G z_sum
  g_super := mg_none_of X G z_super
  g_tuple := mg_none_of X G z_tuple
  g_zip := mg_none_of X G z_zip
theorem walk {l : OpenLaw} {q : Program} {loose : List Str} {XP : (Str → Option Value) → Heap → Prop} {YP : World → Heap → Prop} {d : DefRec} {K : Params → Frag} (hn : l.most = some 63) (hdf : d.params.defaults = []) (hd : d.name = "law") (hY : ∀ (w : World) (h : Heap), YP w h → (K w.params).In h)
    (F : ∀ (w : World) (mg : Str → Option Value) (h : Heap), (K w.params).In h → h.Ns mainGlobals mg → ∀ base : Heap, Tx ⟨l.prog, w, K w.params, mg, base, L2.CX l.prog w⟩) :
    WalkO q loose XP YP l.row.toRowW d [] (fun f vs => PySem.call f vs) := by
  refine Att.attach_call hn hdf fun w s₀ s₁ mg mb fa o pm cd doc a vs ns Gr Y _ _ _ hmg hobj hints hlen hg => ?_
  rw [hd] at hmg
  exact enter_df (k := 13) (S := S_law) (hY w _ Y) Gr.T.g Gr.T.b Gr.T.builtins Gr.T.nolimit hg hmg hobj hints (Nat.le_trans hlen (by rw [sizeLine_eq]; decide)) ⟨rfl, by decide, by decide⟩ (fun base _ => f_law (F w mg _ (hY w _ Y) Gr.T.g base)) fun R r => ⟨ns, rfl, r⟩
end T
open PySem PySem.W PyProof.Rows
set_option maxRecDepth 100000 in
set_option maxHeartbeats 0 in
theorem PySem.Challenge.cw_nonearer_k84_whole_answers_in_great_stat_holds : PySem.Challenge.rw_nonearer_k84_whole_answers_in_great_stat.Holds := by
  w_on; o_law; k_head; (case hw => w_witness2)
  k_fill
  refine T.walk (l := PySem.Challenge.rw_nonearer_k84_whole_answers_in_great_stat) rfl rfl rfl (fun w h Y => PySem.W.kIn_of Y) ?F
  case F =>
    intro w mg h KX G
    refine' T.tx_mk KX G ?h_is_integer ?h_is_number ?h_are_numbers ?h_differences ?h_part_of ?h_joined_parts ?h_distance ?h_label_in ?h_lets_by ?h_passes ?h_deed_key ?h_done ?h_done_all ?h_state_of ?h_last_deeds ?h_deeds_between ?h_passing_keys ?h_pairs_from ?h_nearest ?h_within ?h_count_within ?h_reach_of ?h_rank_of ?h_union_of ?h_first_of_all ?h_is_pair ?h_answer_fault ?h__law_heap ?h__law_draw ?h__law_pick ?h__law_joined ?h__law_distance ?h__law_row ?h__law_vectors ?h__law_keys ?h__law_worths ?h__law_labels ?h__law_items ?h__law_state ?h__law_sieve ?h__law_passes ?h__law_pairs ?h__law_vector ?h__law_same ?h__law_spoilt ?h__law_answers_right ?h__law_deeds_right ?h__law_union_right ?h_law ?x_Refused ?z_ValueError ?z_abs ?z_all ?z_any ?z_bool ?z_dict ?z_enumerate ?z_int ?z_isinstance ?z_len ?z_list ?z_max ?z_min ?z_range ?z_repr ?z_set ?z_sorted ?z_sum ?z_super ?z_tuple ?z_zip
    (case h_is_integer => exact ⟨_, _, _, _, _, _, _, _, _, _, by k_is, by k_is, by k_is, by k_is⟩)
    (case h_is_number => exact ⟨_, _, _, _, _, _, _, _, _, _, by k_is, by k_is, by k_is, by k_is⟩)
    (case h_are_numbers => exact ⟨_, _, _, _, _, _, _, _, _, _, by k_is, by k_is, by k_is, by k_is⟩)
    (case h_differences => exact ⟨_, _, _, _, _, _, _, _, _, _, by k_is, by k_is, by k_is, by k_is⟩)
    (case h_part_of => exact ⟨_, _, _, _, _, _, _, _, _, _, by k_is, by k_is, by k_is, by k_is⟩)
    (case h_joined_parts => exact ⟨_, _, _, _, _, _, _, _, _, _, by k_is, by k_is, by k_is, by k_is⟩)
    (case h_distance => exact ⟨_, _, _, _, _, _, _, _, _, _, by k_is, by k_is, by k_is, by k_is⟩)
    (case h_label_in => exact ⟨_, _, _, _, _, _, _, _, _, _, by k_is, by k_is, by k_is, by k_is⟩)
    (case h_lets_by => exact ⟨_, _, _, _, _, _, _, _, _, _, by k_is, by k_is, by k_is, by k_is⟩)
    (case h_passes => exact ⟨_, _, _, _, _, _, _, _, _, _, by k_is, by k_is, by k_is, by k_is⟩)
    (case h_deed_key => exact ⟨_, _, _, _, _, _, _, _, _, _, by k_is, by k_is, by k_is, by k_is⟩)
    (case h_done => exact ⟨_, _, _, _, _, _, _, _, _, _, by k_is, by k_is, by k_is, by k_is⟩)
    (case h_done_all => exact ⟨_, _, _, _, _, _, _, _, _, _, by k_is, by k_is, by k_is, by k_is⟩)
    (case h_state_of => exact ⟨_, _, _, _, _, _, _, _, _, _, by k_is, by k_is, by k_is, by k_is⟩)
    (case h_last_deeds => exact ⟨_, _, _, _, _, _, _, _, _, _, by k_is, by k_is, by k_is, by k_is⟩)
    (case h_deeds_between => exact ⟨_, _, _, _, _, _, _, _, _, _, by k_is, by k_is, by k_is, by k_is⟩)
    (case h_passing_keys => exact ⟨_, _, _, _, _, _, _, _, _, _, by k_is, by k_is, by k_is, by k_is⟩)
    (case h_pairs_from => exact ⟨_, _, _, _, _, _, _, _, _, _, by k_is, by k_is, by k_is, by k_is⟩)
    (case h_nearest => exact ⟨_, _, _, _, _, _, _, _, _, _, by k_is, by k_is, by k_is, by k_is⟩)
    (case h_within => exact ⟨_, _, _, _, _, _, _, _, _, _, by k_is, by k_is, by k_is, by k_is⟩)
    (case h_count_within => exact ⟨_, _, _, _, _, _, _, _, _, _, by k_is, by k_is, by k_is, by k_is⟩)
    (case h_reach_of => exact ⟨_, _, _, _, _, _, _, _, _, _, by k_is, by k_is, by k_is, by k_is⟩)
    (case h_rank_of => exact ⟨_, _, _, _, _, _, _, _, _, _, by k_is, by k_is, by k_is, by k_is⟩)
    (case h_union_of => exact ⟨_, _, _, _, _, _, _, _, _, _, by k_is, by k_is, by k_is, by k_is⟩)
    (case h_first_of_all => exact ⟨_, _, _, _, _, _, _, _, _, _, by k_is, by k_is, by k_is, by k_is⟩)
    (case h_is_pair => exact ⟨_, _, _, _, _, _, _, _, _, _, by k_is, by k_is, by k_is, by k_is⟩)
    (case h_answer_fault => exact ⟨_, _, _, _, _, _, _, _, _, _, by k_is, by k_is, by k_is, by k_is⟩)
    (case h__law_heap => exact ⟨_, _, _, _, _, _, _, _, _, _, by k_is, by k_is, by k_is, by k_is⟩)
    (case h__law_draw => exact ⟨_, _, _, _, _, _, _, _, _, _, by k_is, by k_is, by k_is, by k_is⟩)
    (case h__law_pick => exact ⟨_, _, _, _, _, _, _, _, _, _, by k_is, by k_is, by k_is, by k_is⟩)
    (case h__law_joined => exact ⟨_, _, _, _, _, _, _, _, _, _, by k_is, by k_is, by k_is, by k_is⟩)
    (case h__law_distance => exact ⟨_, _, _, _, _, _, _, _, _, _, by k_is, by k_is, by k_is, by k_is⟩)
    (case h__law_row => exact ⟨_, _, _, _, _, _, _, _, _, _, by k_is, by k_is, by k_is, by k_is⟩)
    (case h__law_vectors => exact ⟨_, _, _, _, _, _, _, _, _, _, by k_is, by k_is, by k_is, by k_is⟩)
    (case h__law_keys => exact ⟨_, _, _, _, _, _, _, _, _, _, by k_is, by k_is, by k_is, by k_is⟩)
    (case h__law_worths => exact ⟨_, _, _, _, _, _, _, _, _, _, by k_is, by k_is, by k_is, by k_is⟩)
    (case h__law_labels => exact ⟨_, _, _, _, _, _, _, _, _, _, by k_is, by k_is, by k_is, by k_is⟩)
    (case h__law_items => exact ⟨_, _, _, _, _, _, _, _, _, _, by k_is, by k_is, by k_is, by k_is⟩)
    (case h__law_state => exact ⟨_, _, _, _, _, _, _, _, _, _, by k_is, by k_is, by k_is, by k_is⟩)
    (case h__law_sieve => exact ⟨_, _, _, _, _, _, _, _, _, _, by k_is, by k_is, by k_is, by k_is⟩)
    (case h__law_passes => exact ⟨_, _, _, _, _, _, _, _, _, _, by k_is, by k_is, by k_is, by k_is⟩)
    (case h__law_pairs => exact ⟨_, _, _, _, _, _, _, _, _, _, by k_is, by k_is, by k_is, by k_is⟩)
    (case h__law_vector => exact ⟨_, _, _, _, _, _, _, _, _, _, by k_is, by k_is, by k_is, by k_is⟩)
    (case h__law_same => exact ⟨_, _, _, _, _, _, _, _, _, _, by k_is, by k_is, by k_is, by k_is⟩)
    (case h__law_spoilt => exact ⟨_, _, _, _, _, _, _, _, _, _, by k_is, by k_is, by k_is, by k_is⟩)
    (case h__law_answers_right => exact ⟨_, _, _, _, _, _, _, _, _, _, by k_is, by k_is, by k_is, by k_is⟩)
    (case h__law_deeds_right => exact ⟨_, _, _, _, _, _, _, _, _, _, by k_is, by k_is, by k_is, by k_is⟩)
    (case h__law_union_right => exact ⟨_, _, _, _, _, _, _, _, _, _, by k_is, by k_is, by k_is, by k_is⟩)
    (case h_law => exact ⟨_, _, _, _, _, _, _, _, _, _, by k_is, by k_is, by k_is, by k_is⟩)
    (case x_Refused => exact ⟨⟨_, _, _, _, _, _, _, _, _, _, _, _, _, _, _, _, _, _, _, _, _, _, _, _, _, _, _, _, _, _, _, _, _, _, _, _, _, _, _, _, _, _, _, _, _, _, _, _, _, _, by k_is, by k_is, by k_is, by k_is, by k_is, by k_is, rfl, by decide +kernel, by k_is, ⟨_, fun env => rfl⟩, by decide +kernel, by k_is, by k_is, by k_is, by k_is, by k_is, by k_is, by k_is, by k_is, by k_is, by k_is, by k_is, by k_is, by k_is, by ks_is⟩, by k_is, by k_is, by decide +kernel, by decide +kernel, by decide +kernel, by decide +kernel, by decide +kernel, by decide +kernel, by decide +kernel, fun _ _ _ _ _ _ _ _ _ _ _ _ => rfl⟩)
    (case z_ValueError => k_is)
    (case z_abs => k_is)
    (case z_all => k_is)
    (case z_any => k_is)
    (case z_bool => k_is)
    (case z_dict => k_is)
    (case z_enumerate => k_is)
    (case z_int => k_is)
    (case z_isinstance => k_is)
    (case z_len => k_is)
    (case z_list => k_is)
    (case z_max => k_is)
    (case z_min => k_is)
    (case z_range => k_is)
    (case z_repr => k_is)
    (case z_set => k_is)
    (case z_sorted => k_is)
    (case z_sum => k_is)
    (case z_super => k_is)
    (case z_tuple => k_is)
    (case z_zip => k_is)
