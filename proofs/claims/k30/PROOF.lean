import PyProof.Rows.All
import Wide.All
import OpenK.AllK
import Wide.FinOn
import HandS.ForMost
import HandS.SetFor
import HandS.Style
import HandS.TupAny
import HandS.Deep
import HandS.Wide
import HandS.IsInst
import HandS.SortInts
import HandS.Conv
import HandS.Zip
import KE.KTupSum
import KE.SortData
import HandS.TupMul
import KE.DataFind
import KE.DataMinMax
import KE.DataCmp
import HandS.DictComp
import HandS.More
import HandS.TupLen
import KE.KEqDict
import PyProof.Rows.StrMeet
import PyProof.ReprRoads
import HandS.Ends
import PySem.Challenge.RW_wheretimewent_k30_stretches_that_come_ag
set_option Elab.async false
set_option linter.all false
set_option maxRecDepth 100000
namespace TL
open PySem PySem.Spec L2

abbrev T := PyData
abbrev Fg := PySem.W.Frag

/-! ### trees and what stands for them -/
def kOf : T → Option Key
  | .int i => some (.inl i)
  | .str x => some (.inr x)
  | _ => none
def ksOf : List T → Option (List Key)
  | [] => some []
  | t :: r => match kOf t with
    | some k => match ksOf r with
      | some ks => some (k :: ks)
      | none => none
    | none => none
def ktOf : T → Option (List Key)
  | .tuple ts => ksOf ts
  | _ => none

def Plain : HO → Prop
  | .frz _ _ => False
  | _ => True
/-- what may be read there may be read here -/
structure Le (G H : Hp) : Prop where
  rd : ∀ a u, Plain u → Rd G a u → Rd H a u
  dom : ∀ a, H a = none → G a = none
  tp : ∀ a vs, G a = some (.tup vs) → H a = some (.tup vs)
theorem Le.refl (G : Hp) : Le G G := ⟨fun _ _ _ h => h, fun _ h => h, fun _ _ h => h⟩
theorem Le.trans {A B C : Hp} (h : Le A B) (k : Le B C) : Le A C := ⟨fun a u p r => k.rd a u p (h.rd a u p r), fun a n => h.dom a (k.dom a n), fun a vs e => k.tp a vs (h.tp a vs e)⟩
theorem Le.of_same {A B : Hp} (h : Same A B) : Le A B := ⟨fun a u _ r => by
  rcases r with r | ⟨o, r⟩
  · exact .inl (h _ _ r)
  · exact .inr ⟨o, h _ _ r⟩, fun a n => h.free n, fun a vs e => h _ _ e⟩
theorem Le.sql {K : Fg} {G H : Hp} (l : Le G H) {a : Addr} {vs : List V} (h : SqL K G a vs) : SqL K H a vs := by
  rcases h with h | h
  · exact .inl (l.rd a _ trivial h)
  · exact .inr h
theorem Le.sqt {K : Fg} {G H : Hp} (l : Le G H) {a : Addr} {vs : List V} (h : SqT K G a vs) : SqT K H a vs := by
  rcases h with h | h
  · exact .inl (l.rd a _ trivial h)
  · exact .inr h

mutual
inductive Rel (K : Fg) (G : Hp) : T → V → Prop
  | non : Rel K G .none .non
  | bl (b : Bool) : Rel K G (.bool b) (.bl b)
  | int (i : Int) : Rel K G (.int i) (.int i)
  | str (x : Str) : Rel K G (.str x) (.str x)
  | lst {a : Addr} {vs : List V} {ts : List T} : Rd G a (.lst vs) → Rels K G ts vs → Rel K G (.list ts) (.ref a)
  | tup {a : Addr} {vs : List V} {ts : List T} : G a = some (.tup vs) → Rels K G ts vs → Rel K G (.tuple ts) (.ref a)
  | dk {a : Addr} {kk : List (Key × V)} {ts : List (T × T)} : Rd G a (.dK kk) → RelK K G ts kk → Rel K G (.dict ts) (.ref a)
  | dt {a : Addr} {kk : List (List Key × V)} {ts : List (T × T)} : Rd G a (.dT kk) → RelT K G ts kk → ts ≠ [] → Rel K G (.dict ts) (.ref a)
inductive Rels (K : Fg) (G : Hp) : List T → List V → Prop
  | nil : Rels K G [] []
  | cons {t : T} {v : V} {ts : List T} {vs : List V} : Rel K G t v → Rels K G ts vs → Rels K G (t :: ts) (v :: vs)
inductive RelK (K : Fg) (G : Hp) : List (T × T) → List (Key × V) → Prop
  | nil : RelK K G [] []
  | cons {k t : T} {k' : Key} {v : V} {ts : List (T × T)} {vs : List (Key × V)} : kOf k = some k' → Rel K G t v → RelK K G ts vs → RelK K G ((k, t) :: ts) ((k', v) :: vs)
inductive RelT (K : Fg) (G : Hp) : List (T × T) → List (List Key × V) → Prop
  | nil : RelT K G [] []
  | cons {k t : T} {k' : List Key} {v : V} {ts : List (T × T)} {vs : List (List Key × V)} : ktOf k = some k' → Rel K G t v → RelT K G ts vs → RelT K G ((k, t) :: ts) ((k', v) :: vs)
end

section
variable {K : Fg} {G G' H H' : Hp}
mutual
theorem Rel.mono (l : Le G G') : ∀ {t : T} {v : V}, Rel K G t v → Rel K G' t v
  | _, _, .non => .non
  | _, _, .bl b => .bl b
  | _, _, .int i => .int i
  | _, _, .str x => .str x
  | _, _, .lst h r => .lst (l.rd _ _ trivial h) (Rels.mono l r)
  | _, _, .tup h r => .tup (l.tp _ _ h) (Rels.mono l r)
  | _, _, .dk h r => .dk (l.rd _ _ trivial h) (RelK.mono l r)
  | _, _, .dt h r n => .dt (l.rd _ _ trivial h) (RelT.mono l r) n
theorem Rels.mono (l : Le G G') : ∀ {t : List T} {v : List V}, Rels K G t v → Rels K G' t v
  | _, _, .nil => .nil
  | _, _, .cons h r => .cons (Rel.mono l h) (Rels.mono l r)
theorem RelK.mono (l : Le G G') : ∀ {t : List (T × T)} {v : List (Key × V)}, RelK K G t v → RelK K G' t v
  | _, _, .nil => .nil
  | _, _, .cons e h r => .cons e (Rel.mono l h) (RelK.mono l r)
theorem RelT.mono (l : Le G G') : ∀ {t : List (T × T)} {v : List (List Key × V)}, RelT K G t v → RelT K G' t v
  | _, _, .nil => .nil
  | _, _, .cons e h r => .cons e (Rel.mono l h) (RelT.mono l r)
end

theorem Rels.length : ∀ {ts : List T} {vs : List V}, Rels K G ts vs → vs.length = ts.length
  | _, _, .nil => rfl
  | _, _, .cons _ r => by rw [List.length_cons, List.length_cons, Rels.length r]
theorem Rels.get : ∀ {ts : List T} {vs : List V}, Rels K G ts vs → ∀ {i : Nat} {t : T}, ts[i]? = some t → ∃ v, vs[i]? = some v ∧ Rel K G t v
  | _, _, .nil, i, t, h => by simp at h
  | _, _, .cons h r, 0, t, e => by simp at e; subst e; exact ⟨_, rfl, h⟩
  | _, _, .cons h r, i + 1, t, e => by
    obtain ⟨v, a, b⟩ := Rels.get r (i := i) (t := t) (by simpa using e)
    exact ⟨v, by simpa using a, b⟩
theorem Rels.getV : ∀ {ts : List T} {vs : List V}, Rels K G ts vs → ∀ {i : Nat} {v : V}, vs[i]? = some v → ∃ t, ts[i]? = some t ∧ Rel K G t v
  | _, _, .nil, i, v, h => by simp at h
  | _, _, .cons h r, 0, v, e => by simp at e; subst e; exact ⟨_, rfl, h⟩
  | _, _, .cons h r, i + 1, v, e => by
    obtain ⟨t, a, b⟩ := Rels.getV r (i := i) (v := v) (by simpa using e)
    exact ⟨t, by simpa using a, b⟩
theorem Rels.app : ∀ {ts : List T} {vs : List V}, Rels K G ts vs → ∀ {us : List T} {ws : List V}, Rels K G us ws → Rels K G (ts ++ us) (vs ++ ws)
  | _, _, .nil, _, _, s => s
  | _, _, .cons h r, _, _, s => .cons h (Rels.app r s)
theorem Rels.take : ∀ {ts : List T} {vs : List V}, Rels K G ts vs → ∀ (n : Nat), Rels K G (ts.take n) (vs.take n)
  | _, _, _, 0 => .nil
  | _, _, .nil, _ + 1 => .nil
  | _, _, .cons h r, n + 1 => .cons h (Rels.take r n)
theorem Rels.drop : ∀ {ts : List T} {vs : List V}, Rels K G ts vs → ∀ (n : Nat), Rels K G (ts.drop n) (vs.drop n)
  | _, _, r, 0 => r
  | _, _, .nil, _ + 1 => .nil
  | _, _, .cons h r, n + 1 => Rels.drop r n
theorem Rels.set : ∀ {ts : List T} {vs : List V}, Rels K G ts vs → ∀ (i : Nat) {t : T} {v : V}, Rel K G t v → Rels K G (ts.set i t) (vs.set i v)
  | _, _, .nil, _, _, _, _ => .nil
  | _, _, .cons h r, 0, _, _, q => .cons q r
  | _, _, .cons h r, i + 1, _, _, q => .cons h (Rels.set r i q)
theorem Rels.rev : ∀ {ts : List T} {vs : List V}, Rels K G ts vs → Rels K G ts.reverse vs.reverse
  | _, _, .nil => .nil
  | _, _, .cons h r => by rw [List.reverse_cons, List.reverse_cons]; exact (Rels.rev r).app (.cons h .nil)
theorem Rels.one {t : T} {v : V} (h : Rel K G t v) : Rels K G [t] [v] := .cons h .nil
theorem Rels.eraseIdx : ∀ {ts : List T} {vs : List V}, Rels K G ts vs → ∀ (i : Nat), Rels K G (ts.eraseIdx i) (vs.eraseIdx i)
  | _, _, .nil, _ => .nil
  | _, _, .cons h r, 0 => r
  | _, _, .cons h r, i + 1 => .cons h (Rels.eraseIdx r i)

def NoT (x : Option HO) : Prop := ∃ o, x = some o ∧ ∀ vs, o ≠ .tup vs
theorem NoT.ne {x : Option HO} (h : NoT x) : x ≠ none := by
  obtain ⟨o, e, _⟩ := h
  rw [e]; simp
theorem NoT.of {x y : Option HO} (h : NoT x) (e : ∀ o, x = some o → y = some o) : NoT y := by
  obtain ⟨o, a, b⟩ := h
  exact ⟨o, e o a, b⟩
/-- an object of one's own: it stands in H, not in G -/
inductive Own (K : Fg) (G H : Hp) : T → Addr → Prop
  | lst {p : Addr} {vs : List V} {ts : List T} : H p = some (.lst vs) → Rels K G ts vs → Own K G H (.list ts) p
  | dk {p : Addr} {kk : List (Key × V)} {ts : List (T × T)} : H p = some (.dK kk) → RelK K G ts kk → Own K G H (.dict ts) p
  | dt {p : Addr} {kk : List (List Key × V)} {ts : List (T × T)} : H p = some (.dT kk) → RelT K G ts kk → ts ≠ [] → Own K G H (.dict ts) p
theorem Own.mono {t : T} {p : Addr} (l : Le G G') (h : H' p = H p) : Own K G H t p → Own K G' H' t p
  | .lst e r => .lst (h.trans e) (r.mono l)
  | .dk e r => .dk (h.trans e) (r.mono l)
  | .dt e r n => .dt (h.trans e) (r.mono l) n
theorem Own.some {t : T} {p : Addr} : Own K G H t p → ∃ o, H p = some o ∧ Plain o
  | .lst e _ => ⟨_, e, trivial⟩
  | .dk e _ => ⟨_, e, trivial⟩
  | .dt e _ _ => ⟨_, e, trivial⟩
theorem Own.ne {t : T} {p : Addr} (h : Own K G H t p) : H p ≠ none := by
  obtain ⟨o, e, _⟩ := h.some
  rw [e]; simp
theorem Own.noT {t : T} {p : Addr} : Own K G H t p → NoT (H p)
  | .lst e _ => ⟨_, e, fun _ z => nomatch z⟩
  | .dk e _ => ⟨_, e, fun _ z => nomatch z⟩
  | .dt e _ _ => ⟨_, e, fun _ z => nomatch z⟩
/-- frozen where it stands -/
theorem Own.rel {t : T} {p : Addr} (h : Own K G H t p) (l : Le G G') (e : G' p = H p) : Rel K G' t (.ref p) := by
  cases h with
  | lst h r => exact .lst (.inl (e.trans h)) (r.mono l)
  | dk h r => exact .dk (.inl (e.trans h)) (r.mono l)
  | dt h r n => exact .dt (.inl (e.trans h)) (r.mono l) n

/-- a value that is looked at: frozen, or one's own -/
inductive Peek (K : Fg) (G H : Hp) : T → V → Prop
  | fz {t : T} {v : V} : Rel K G t v → Peek K G H t v
  | ow {t : T} {p : Addr} : Own K G H t p → Peek K G H t (.ref p)
theorem Peek.rel {t : T} {v : V} (l : Le G H) : Peek K G H t v → Rel K H t v
  | .fz h => h.mono l
  | .ow h => h.rel l rfl
theorem Peek.lst {ts : List T} {v : V} (l : Le G H) : Peek K G H (.list ts) v → ∃ a vs, v = .ref a ∧ Rd H a (.lst vs) ∧ Rels K G ts vs
  | .fz (.lst h r) => ⟨_, _, rfl, l.rd _ _ trivial h, r⟩
  | .ow (.lst h r) => ⟨_, _, rfl, .inl h, r⟩
theorem Peek.tup {ts : List T} {v : V} (l : Le G H) : Peek K G H (.tuple ts) v → ∃ a vs, v = .ref a ∧ G a = some (.tup vs) ∧ Rels K G ts vs
  | .fz (.tup h r) => ⟨_, _, rfl, h, r⟩
theorem Peek.int {i : Int} {v : V} : Peek K G H (.int i) v → v = .int i
  | .fz (.int _) => rfl
theorem Peek.str {x : Str} {v : V} : Peek K G H (.str x) v → v = .str x
  | .fz (.str _) => rfl
theorem Peek.bl {x : Bool} {v : V} : Peek K G H (.bool x) v → v = .bl x
  | .fz (.bl _) => rfl
theorem Peek.non {v : V} : Peek K G H .none v → v = .non
  | .fz .non => rfl

inductive Peeks (K : Fg) (G H : Hp) : List T → List V → Prop
  | nil : Peeks K G H [] []
  | cons {t : T} {v : V} {ts : List T} {vs : List V} : Peek K G H t v → Peeks K G H ts vs → Peeks K G H (t :: ts) (v :: vs)

/-! ### growing heaps -/
structure Ext (G H G' H' : Hp) : Prop where
  g : Le G G'
  h : Same H H'
  le : Le G' H'
  old : ∀ p, NoT (H p) → G' p = G p
theorem Ext.refl (l : Le G H) : Ext G H G H := ⟨.refl _, Same.refl _, l, fun _ _ => rfl⟩
theorem Ext.trans {G1 H1 G2 H2 : Hp} (a : Ext G H G1 H1) (b : Ext G1 H1 G2 H2) : Ext G H G2 H2 := by
  refine ⟨a.g.trans b.g, a.h.trans b.h, b.le, fun p n => ?_⟩
  rw [b.old p (n.of (fun o e => a.h _ _ e)), a.old p n]
theorem Le.upd_new {p : Addr} {o : HO} (n : G p = none) : Le G (upd G p o) := by
  refine ⟨fun a u _ r => ?_, fun a e => ?_, fun a vs e => ?_⟩
  · have ne : a ≠ p := by
      rintro rfl
      rcases r with r | ⟨_, r⟩ <;> rw [n] at r <;> cases r
    rcases r with r | ⟨o', r⟩
    · exact .inl (by rw [upd_ne ne]; exact r)
    · exact .inr ⟨o', by rw [upd_ne ne]; exact r⟩
  · by_cases ne : a = p
    · subst ne; exact n
    · rw [upd_ne ne] at e; exact e
  · have ne : a ≠ p := by rintro rfl; rw [n] at e; cases e
    rw [upd_ne ne]; exact e
/-- an object of H laid into G -/
theorem Le.upd_le {p : Addr} {o : HO} (l : Le G H) (e : H p = some o) (pl : Plain o) : Le (upd G p o) H := by
  refine ⟨fun a u pu r => ?_, fun a n => ?_, fun a vs q => ?_⟩
  · by_cases ne : a = p
    · subst ne
      rcases r with r | ⟨o', r⟩
      · rw [upd_same] at r; cases r; exact .inl e
      · rw [upd_same] at r; cases r; exact pl.elim
    · refine l.rd a u pu ?_
      rcases r with r | ⟨o', r⟩
      · rw [upd_ne ne] at r; exact .inl r
      · rw [upd_ne ne] at r; exact .inr ⟨o', r⟩
  · by_cases ne : a = p
    · subst ne; rw [n] at e; cases e
    · rw [upd_ne ne]; exact l.dom a n
  · by_cases ne : a = p
    · subst ne; rw [upd_same] at q; cases q; exact e
    · rw [upd_ne ne] at q; exact l.tp a vs q
theorem Same.upd_new {p : Addr} {o : HO} (n : H p = none) : Same H (upd H p o) := fun b x e => by
  rw [upd_ne (ne_of_none e n)]
  exact e
/-- a new tuple (laid in both), a new object of one's own -/
theorem Ext.both (l : Le G H) {p : Addr} {o : HO} (n : H p = none) (pl : Plain o) : Ext G H (upd G p o) (upd H p o) := by
  refine ⟨.upd_new (l.dom p n), Same.upd_new n, ?_, fun q hq => upd_ne (fun e => hq.ne (e ▸ n))⟩
  exact (l.trans (.of_same (Same.upd_new n))).upd_le upd_same pl
theorem Ext.own (l : Le G H) {p : Addr} {o : HO} (n : H p = none) : Ext G H G (upd H p o) :=
  ⟨.refl _, Same.upd_new n, l.trans (.of_same (Same.upd_new n)), fun _ _ => rfl⟩
end

/-! ### the cells of a frame -/
inductive Cell where
  | un
  | fz (t : T)
  | ow (t : T)
  | bo (t : T)
abbrev Cs := List Cell
def OwC (cs : Cs) (i : Nat) (t : T) : Prop := cs[i]? = some (Cell.ow t) ∨ cs[i]? = some (Cell.bo t)
def OwnAt (cs : Cs) (σ : St) (p : Addr) : Prop := ∃ i t, OwC cs i t ∧ σ[i]? = some (some (.ref p))

structure SR (K : Fg) (G H : Hp) (cs : Cs) (σ : St) : Prop where
  le : Le G H
  len : cs.length = σ.length
  fz : ∀ (i : Nat) (t : T), cs[i]? = some (Cell.fz t) → ∃ v, σ[i]? = some (some v) ∧ Rel K G t v
  ow : ∀ (i : Nat) (t : T), OwC cs i t → ∃ p, σ[i]? = some (some (.ref p)) ∧ G p = none ∧ Own K G H t p
  apart : ∀ (i j : Nat) (t u : T) (p : Addr), OwC cs i t → OwC cs j u → σ[i]? = some (some (.ref p)) → σ[j]? = some (some (.ref p)) → i = j

/-- what a piece of a run leaves of the heaps -/
structure Fr (σ : St) (G H : Hp) (cs : Cs) (σ' : St) (G' H' : Hp) (cs' : Cs) : Prop where
  g : Le G G'
  keep : ∀ p o, H p = some o → ¬ OwnAt cs σ p → H' p = some o
  gfr : ∀ p, NoT (H p) → G p = none → ¬ OwnAt cs σ p → G' p = none
  own : ∀ p, OwnAt cs' σ' p → OwnAt cs σ p ∨ H p = none
  hmo : ∀ p, H p ≠ none → H' p ≠ none
  bo : ∀ (i : Nat) (t : T), cs[i]? = some (Cell.bo t) → ∃ t', cs'[i]? = some (Cell.bo t') ∧ σ'[i]? = σ[i]?
  bo' : ∀ (i : Nat) (t' : T), cs'[i]? = some (Cell.bo t') → ∃ t, cs[i]? = some (Cell.bo t)
/-- .. an expression -/
structure FrE (σ : St) (G H : Hp) (cs : Cs) (G' H' : Hp) (cs' : Cs) : Prop extends Fr σ G H cs σ G' H' cs' where
  fzk : ∀ (i : Nat) (t : T), cs[i]? = some (Cell.fz t) → cs'[i]? = some (Cell.fz t)
  live : ∀ (i : Nat) (t : T), OwC cs i t → (∃ t', OwC cs' i t') ∨ ∃ t', cs'[i]? = some (Cell.fz t')
  back : ∀ (i : Nat) (t : T), OwC cs' i t → ∃ t', OwC cs i t'

section
variable {K : Fg} {σ σ1 σ2 : St} {G H G1 H1 G2 H2 : Hp} {cs cs1 cs2 : Cs}
theorem Fr.refl : Fr σ G H cs σ G H cs := ⟨.refl _, fun _ _ h _ => h, fun _ _ h _ => h, fun _ h => .inl h, fun _ h => h, fun _ t h => ⟨t, h, rfl⟩, fun _ t h => ⟨t, h⟩⟩
theorem Fr.trans (a : Fr σ G H cs σ1 G1 H1 cs1) (b : Fr σ1 G1 H1 cs1 σ2 G2 H2 cs2) : Fr σ G H cs σ2 G2 H2 cs2 := by
  have no : ∀ p, H p ≠ none → ¬ OwnAt cs σ p → ¬ OwnAt cs1 σ1 p := fun p n h z => (a.own p z).elim h n
  refine ⟨a.g.trans b.g, fun p o e h => b.keep p o (a.keep p o e h) (no p (by rw [e]; simp) h), fun p n g h => b.gfr p (n.of fun o e => a.keep p o e h) (a.gfr p n g h) (no p n.ne h), fun p h => ?_, fun p n => b.hmo p (a.hmo p n), fun i t e => ?_, fun i t e => ?_⟩
  · rcases b.own p h with h | h
    · exact a.own p h
    · refine .inr ?_
      cases q : H p with
      | none => rfl
      | some o => exact absurd h (a.hmo p (by rw [q]; simp))
  · obtain ⟨t1, e1, s1⟩ := a.bo i t e
    obtain ⟨t2, e2, s2⟩ := b.bo i t1 e1
    exact ⟨t2, e2, s2.trans s1⟩
  · obtain ⟨t1, e1⟩ := b.bo' i t e
    exact a.bo' i t1 e1
theorem FrE.refl : FrE σ G H cs G H cs := ⟨.refl, fun _ _ h => h, fun _ t h => .inl ⟨t, h⟩, fun _ t h => ⟨t, h⟩⟩
theorem FrE.trans (a : FrE σ G H cs G1 H1 cs1) (b : FrE σ G1 H1 cs1 G2 H2 cs2) : FrE σ G H cs G2 H2 cs2 := by
  refine ⟨a.toFr.trans b.toFr, fun i t e => b.fzk i t (a.fzk i t e), fun i t e => ?_, fun i t e => ?_⟩
  · rcases a.live i t e with ⟨t1, e1⟩ | ⟨t1, e1⟩
    · exact b.live i t1 e1
    · exact .inr ⟨t1, b.fzk i t1 e1⟩
  · obtain ⟨t1, e1⟩ := b.back i t e
    exact a.back i t1 e1
theorem SR.own_ne (R : SR K G H cs σ) {p : Addr} (h : OwnAt cs σ p) : H p ≠ none ∧ G p = none := by
  obtain ⟨i, t, c, e⟩ := h
  obtain ⟨q, eq, n, o⟩ := R.ow i t c
  rw [e] at eq; cases eq
  exact ⟨o.ne, n⟩
theorem SR.own_noT (R : SR K G H cs σ) {p : Addr} (h : OwnAt cs σ p) : NoT (H p) := by
  obtain ⟨i, t, c, e⟩ := h
  obtain ⟨q, eq, n, o⟩ := R.ow i t c
  rw [e] at eq; cases eq
  exact o.noT
/-- pure operations -/
theorem SR.ext (R : SR K G H cs σ) (x : Ext G H G1 H1) : SR K G1 H1 cs σ := by
  refine ⟨x.le, R.len, fun i t e => ?_, fun i t e => ?_, R.apart⟩
  · obtain ⟨v, a, b⟩ := R.fz i t e
    exact ⟨v, a, b.mono x.g⟩
  · obtain ⟨p, a, n, o⟩ := R.ow i t e
    obtain ⟨ob, h, _⟩ := o.some
    exact ⟨p, a, (x.old p o.noT).trans n, o.mono x.g (by rw [h]; exact x.h _ _ h)⟩
theorem FrE.ext (x : Ext G H G1 H1) : FrE σ G H cs G1 H1 cs := by
  refine ⟨⟨x.g, fun p o e _ => x.h p o e, fun p n g _ => (x.old p n).trans g, fun p h => .inl h, fun p n => ?_, fun i t e => ⟨t, e, rfl⟩, fun i t e => ⟨t, e⟩⟩, fun _ _ e => e, fun i t e => .inl ⟨t, e⟩, fun i t e => ⟨t, e⟩⟩
  cases q : H p with
  | none => exact absurd q n
  | some o => rw [x.h _ _ q]; simp
end

/-! ### results -/
/-- a frozen value; the object in a slot; a new object -/
inductive Rs where
  | fz (t : T)
  | sl (i : Nat)
  | nw (t : T)
def RsOk (K : Fg) (G H : Hp) (cs : Cs) (σ : St) : Rs → V → Prop
  | .fz t, v => Rel K G t v
  | .sl i, v => σ[i]? = some (some v) ∧ ((∃ t, OwC cs i t) ∨ ∃ t, cs[i]? = some (Cell.fz t))
  | .nw t, v => ∃ p, v = .ref p ∧ G p = none ∧ Own K G H t p ∧ ¬ OwnAt cs σ p
/-- new behind H -/
def Young (H : Hp) : Rs → V → Prop
  | .nw _, v => ∀ p, v = .ref p → H p = none
  | _, _ => True
def pk : Rs → Cs → Option T
  | .fz t, _ => some t
  | .nw t, _ => some t
  | .sl i, cs => match cs[i]? with
    | some (.fz t) => some t
    | some (.ow t) => some t
    | some (.bo t) => some t
    | _ => none
def frz : Rs → Cs → Option (T × Cs)
  | .fz t, cs => some (t, cs)
  | .nw t, cs => some (t, cs)
  | .sl i, cs => match cs[i]? with
    | some (.fz t) => some (t, cs)
    | some (.ow t) => some (t, cs.set i (.fz t))
    | _ => none
section
variable {K : Fg} {σ σ1 σ2 : St} {G H G1 H1 G2 H2 : Hp} {cs cs1 cs2 : Cs} {r : Rs} {v : V} {t : T}
theorem Young.mono (y : Young H1 r v) (h : ∀ p, H1 p = none → H p = none) : Young H r v := by
  cases r with
  | nw t => exact fun p e => h p (y p e)
  | fz t => trivial
  | sl i => trivial
theorem Fr.dom (f : Fr σ G H cs σ1 G1 H1 cs1) : ∀ p, H1 p = none → H p = none := fun p n => by
  cases q : H p with
  | none => rfl
  | some o => exact absurd n (f.hmo p (by rw [q]; simp))
theorem RsOk.mono (ok : RsOk K G H cs σ r v) (f : FrE σ G H cs G1 H1 cs1) : RsOk K G1 H1 cs1 σ r v := by
  cases r with
  | fz t => exact Rel.mono f.g ok
  | sl i =>
    obtain ⟨a, b⟩ := ok
    refine ⟨a, ?_⟩
    rcases b with ⟨t, b⟩ | ⟨t, b⟩
    · exact f.live i t b
    · exact .inr ⟨t, f.fzk i t b⟩
  | nw t =>
    obtain ⟨p, e, n, o, h⟩ := ok
    obtain ⟨ob, eo, _⟩ := o.some
    refine ⟨p, e, f.gfr p o.noT n h, o.mono f.g (by rw [eo]; exact f.keep p ob eo h), fun z => ?_⟩
    rcases f.own p z with z | z
    · exact h z
    · exact o.ne z
theorem RsOk.peek (R : SR K G H cs σ) (ok : RsOk K G H cs σ r v) (e : pk r cs = some t) : Peek K G H t v := by
  cases r with
  | fz u => cases e; exact .fz ok
  | nw u => cases e; obtain ⟨p, rfl, n, o, _⟩ := ok; exact .ow o
  | sl i =>
    obtain ⟨a, b⟩ := ok
    simp only [pk] at e
    split at e
    · rename_i u hu
      cases e
      obtain ⟨w, ew, rw'⟩ := R.fz i _ hu
      rw [a] at ew; cases ew
      exact .fz rw'
    · rename_i u hu
      cases e
      obtain ⟨p, ep, n, o⟩ := R.ow i _ (.inl hu)
      rw [a] at ep; cases ep
      exact .ow o
    · rename_i u hu
      cases e
      obtain ⟨p, ep, n, o⟩ := R.ow i _ (.inr hu)
      rw [a] at ep; cases ep
      exact .ow o
    · cases e
end
end TL
namespace TL
open PySem PySem.Spec L2

section
variable {K : Fg} {σ σ1 σ2 : L2.St} {G0 H0 G H G1 H1 G2 H2 : Hp} {cs0 cs cs1 cs2 : Cs} {r : Rs} {v : V} {t : T}

theorem set_get {α : Type} {l : List α} {i j : Nat} {x : α} : (l.set i x)[j]? = if i = j then (if i < l.length then some x else none) else l[j]? := by
  rw [List.getElem?_set]
theorem set_other {α : Type} {l : List α} {i j : Nat} {x : α} (h : j ≠ i) : (l.set i x)[j]? = l[j]? := by
  rw [List.getElem?_set_ne (Ne.symm h)]
theorem lt_of_get {α : Type} {l : List α} {i : Nat} {x : α} (h : l[i]? = some x) : i < l.length := (List.getElem?_eq_some_iff.mp h).1
theorem set_self {α : Type} {l : List α} {i : Nat} {x : α} (h : i < l.length) : (l.set i x)[i]? = some x := List.getElem?_set_self h

theorem frz_ok (f : FrE σ G0 H0 cs0 G H cs) (R : SR K G H cs σ) (ok : RsOk K G H cs σ r v) (y : Young H0 r v) (e : frz r cs = some (t, cs1)) :
    ∃ G', FrE σ G0 H0 cs0 G' H cs1 ∧ SR K G' H cs1 σ ∧ Rel K G' t v := by
  cases r with
  | fz u => cases e; exact ⟨G, f, R, ok⟩
  | nw u =>
    cases e
    obtain ⟨p, rfl, n, o, h⟩ := ok
    obtain ⟨ob, eo, pl⟩ := o.some
    have hp0 : H0 p = none := y p rfl
    have ug : Le G (upd G p ob) := .upd_new n
    refine ⟨upd G p ob, ⟨⟨f.g.trans ug, f.keep, fun q a b c => ?_, f.own, f.hmo, f.bo, f.bo'⟩, f.fzk, f.live, f.back⟩, ⟨R.le.upd_le eo pl, R.len, fun i u e => ?_, fun i u e => ?_, R.apart⟩, o.rel ug (by rw [upd_same, eo])⟩
    · have ne : q ≠ p := fun z => a.ne (z ▸ hp0)
      rw [upd_ne ne]; exact f.gfr q a b c
    · obtain ⟨w, a, b⟩ := R.fz i u e
      exact ⟨w, a, b.mono ug⟩
    · obtain ⟨q, a, b, c⟩ := R.ow i u e
      have ne : q ≠ p := fun z => h ⟨i, u, e, z ▸ a⟩
      exact ⟨q, a, by rw [upd_ne ne]; exact b, c.mono ug rfl⟩
  | sl i =>
    obtain ⟨a, b⟩ := ok
    simp only [frz] at e
    split at e
    · rename_i u hu
      cases e
      obtain ⟨w, ew, rw'⟩ := R.fz i _ hu
      rw [a] at ew; cases ew
      exact ⟨G, f, R, rw'⟩
    · rename_i u hu
      cases e
      obtain ⟨p, ep, n, o⟩ := R.ow i _ (.inl hu)
      rw [a] at ep; cases ep
      obtain ⟨ob, eo, pl⟩ := o.some
      have ug : Le G (upd G p ob) := .upd_new n
      have hi : i < cs.length := lt_of_get hu
      have oc : ∀ j w, OwC (cs.set i (.fz t)) j w → j ≠ i ∧ OwC cs j w := fun j w h => by
        have ne : j ≠ i := by
          rintro rfl
          rcases h with h | h <;> rw [set_self hi] at h <;> cases h
        refine ⟨ne, ?_⟩
        rcases h with h | h <;> rw [set_other ne] at h
        · exact .inl h
        · exact .inr h
      refine ⟨upd G p ob, ⟨⟨f.g.trans ug, f.keep, fun q x y z => ?_, fun q ⟨j, w, x, y⟩ => f.own q ⟨j, w, (oc j w x).2, y⟩, f.hmo, fun j w e => ?_, fun j w e => ?_⟩, fun j w e => ?_, fun j w e => ?_, fun j w e => f.back j w (oc j w e).2⟩,
        ⟨R.le.upd_le eo pl, by rw [List.length_set]; exact R.len, fun j w e => ?_, fun j w e => ?_, fun j k u w q a b => R.apart j k u w q (oc _ _ a).2 (oc _ _ b).2⟩, o.rel ug (by rw [upd_same, eo])⟩
      · have ne : q ≠ p := by
          rintro rfl
          rcases f.own q ⟨i, t, .inl hu, a⟩ with k | k
          · exact z k
          · exact x.ne k
        rw [upd_ne ne]; exact f.gfr q x y z
      · obtain ⟨t', e1, e2⟩ := f.bo j w e
        have ne : j ≠ i := by rintro rfl; rw [hu] at e1; cases e1
        exact ⟨t', by rw [set_other ne]; exact e1, e2⟩
      · have ne : j ≠ i := by rintro rfl; rw [set_self hi] at e; cases e
        rw [set_other ne] at e
        exact f.bo' j w e
      · have e1 := f.fzk j w e
        have ne : j ≠ i := by rintro rfl; rw [hu] at e1; cases e1
        rw [set_other ne]; exact e1
      · by_cases ne : j = i
        · subst ne; exact .inr ⟨t, set_self hi⟩
        · rcases f.live j w e with ⟨w', h⟩ | ⟨w', h⟩
          · refine .inl ⟨w', ?_⟩
            rcases h with h | h
            · exact .inl (by rw [set_other ne]; exact h)
            · exact .inr (by rw [set_other ne]; exact h)
          · exact .inr ⟨w', by rw [set_other ne]; exact h⟩
      · by_cases ne : j = i
        · subst ne
          rw [set_self hi] at e; cases e
          exact ⟨_, a, o.rel ug (by rw [upd_same, eo])⟩
        · rw [set_other ne] at e
          obtain ⟨w', x, y⟩ := R.fz j w e
          exact ⟨w', x, y.mono ug⟩
      · obtain ⟨ne, e⟩ := oc j w e
        obtain ⟨q, x, y, z⟩ := R.ow j w e
        have nq : q ≠ p := by
          rintro rfl
          exact ne (R.apart j i w t q e (.inl hu) x a)
        exact ⟨q, x, by rw [upd_ne nq]; exact y, z.mono ug rfl⟩
    · cases e
end

/-! ### expressions -/
abbrev ME := Cs → Option (Rs × Cs)
def tS (K : Fg) (m : ME) : TE := fun σ H Q => ∃ G cs, SR K G H cs σ ∧ ∃ r cs', m cs = some (r, cs') ∧
  ∀ G' H' v, FrE σ G H cs G' H' cs' → SR K G' H' cs' σ → RsOk K G' H' cs' σ r v → Young H r v → Q v H'
abbrev SE (X : Cx) (e : Expr) (m : ME) : Prop := PE X e (tS X.K m)
theorem PE.imp {X : Cx} {e : Expr} {t t' : TE} (h : PE X e t) (i : ∀ σ H Q, t' σ H Q → t σ H Q) : PE X e t' := ⟨fun pins s σ H Q I q => h.run pins s σ H Q I (i σ H Q q)⟩
theorem PT.imp {X : Cx} {e : Expr} {t t' : TT} (h : PT X e t) (i : ∀ σ H Q, t' σ H Q → t σ H Q) : PT X e t' := ⟨fun pins s σ H Q I q => h.run pins s σ H Q I (i σ H Q q)⟩
theorem PW.imp {X : Cx} {e : Expr} {t t' : TT} (h : PW X e t) (i : ∀ σ H Q, t' σ H Q → t σ H Q) : PW X e t' := ⟨fun w pins s σ H Q I q => h.run w pins s σ H Q I (i σ H Q q)⟩
theorem PA.imp {X : Cx} {e : List Expr} {t t' : TA} (h : PA X e t) (i : ∀ σ H Q, t' σ H Q → t σ H Q) : PA X e t' := ⟨fun pos pins s σ H Q I q => h.run pos pins s σ H Q I (i σ H Q q)⟩
theorem PS.imp {X : Cx} {e : Stmt} {t t' : TS} (h : PS X e t) (i : ∀ D σ H, t' D σ H → t D σ H) : PS X e t' := ⟨fun pins s σ H D I q => h.run pins s σ H D I (i D σ H q)⟩
theorem PSs.imp {X : Cx} {e : List Stmt} {t t' : TS} (h : PSs X e t) (i : ∀ D σ H, t' D σ H → t D σ H) : PSs X e t' := ⟨fun pins s σ H D I q => h.run pins s σ H D I (i D σ H q)⟩
theorem PE.or {X : Cx} {e : Expr} {t t' : TE} (h : PE X e t) (h' : PE X e t') : PE X e (fun σ H Q => t σ H Q ∨ t' σ H Q) :=
  ⟨fun pins s σ H Q I q => q.elim (h.run pins s σ H Q I) (h'.run pins s σ H Q I)⟩

/-- a name -/
def mV (i : Nat) : ME := fun cs => match cs[i]? with
  | some (.fz t) => some (.fz t, cs)
  | some (.ow _) => some (.sl i, cs)
  | some (.bo _) => some (.sl i, cs)
  | _ => none
/-- a constant -/
def mC (t : T) : ME := fun cs => some (.fz t, cs)
/-- what is kept of a result is frozen -/
def mFz (m : ME) : ME := fun cs => match m cs with
  | some (r, cs1) => match frz r cs1 with
    | some (t, cs2) => some (.fz t, cs2)
    | none => none
  | none => none

section
variable {X : Cx} {e a b : Expr} {m ma mb : ME} {pos : Pos}
theorem imp_var {K : Fg} {i : Nat} {σ : L2.St} {H : Hp} {Q : VK} (h : tS K (mV i) σ H Q) : tVar i σ H Q := by
  obtain ⟨G, cs, R, r, cs', e, k⟩ := h
  simp only [mV] at e
  split at e
  · rename_i t ht
    cases e
    obtain ⟨v, ev, rv⟩ := R.fz i _ ht
    exact ⟨v, ev, k G H v .refl R rv trivial⟩
  · rename_i t ht
    cases e
    obtain ⟨p, ep, n, o⟩ := R.ow i _ (.inl ht)
    exact ⟨_, ep, k G H _ .refl R ⟨ep, .inl ⟨_, .inl ht⟩⟩ trivial⟩
  · rename_i t ht
    cases e
    obtain ⟨p, ep, n, o⟩ := R.ow i _ (.inr ht)
    exact ⟨_, ep, k G H _ .refl R ⟨ep, .inl ⟨_, .inr ht⟩⟩ trivial⟩
  · cases e
theorem se_var {i : Nat} {x : Str} (hN : X.N[i]? = some x) (hv : Vis X.env.scope x) (hd : (x == ("__debug__" : Str)) = false := by decide) (hcd : (x == ("__classdict__" : Str)) = false := by decide) : SE X (.Name x pos) (mV i) :=
  PE.imp (pe_var hN hv hd hcd) fun _ _ _ h => imp_var h
theorem se_c {t : T} {v : V} (h : PE X e (tC v)) (r : ∀ G, Rel X.K G t v) : SE X e (mC t) := PE.imp h fun σ H Q ⟨G, cs, R, r', cs', e, k⟩ => by
  cases e
  exact k G H v .refl R (r G) trivial
theorem se_int {i j} : SE X (.Constant (.int i) j pos) (mC (.int i)) := se_c pe_int fun _ => .int _
theorem se_bl {b j} : SE X (.Constant (.bool b) j pos) (mC (.bool b)) := se_c pe_bl fun _ => .bl _
theorem se_non {j} : SE X (.Constant .none j pos) (mC .none) := se_c pe_non fun _ => .non
theorem se_str {x j} : SE X (.Constant (.str x) j pos) (mC (.str x)) := se_c pe_str fun _ => .str _
theorem imp_fz {K : Fg} {σ : L2.St} {H : Hp} {Q : VK} (h : tS K (mFz m) σ H Q) : tS K m σ H Q := by
  obtain ⟨G, cs, R, r, cs', e, k⟩ := h
  simp only [mFz] at e
  split at e
  · rename_i r1 cs1 h1
    split at e
    · rename_i t cs2 h2
      cases e
      refine ⟨G, cs, R, r1, cs1, h1, fun G1 H1 v f R1 ok y => ?_⟩
      obtain ⟨G2, f2, R2, rel⟩ := frz_ok f R1 ok y h2
      exact k G2 H1 v f2 R2 rel trivial
    · cases e
  · cases e
theorem se_fz (h : SE X e m) : SE X e (mFz m) := PE.imp h fun _ _ _ q => imp_fz q
end

/-! ### operations on trees -/
inductive Out where
  | fz (t : T)
  | nw (t : T)
def Out.rs : Out → Rs
  | .fz t => .fz t
  | .nw t => .nw t
def OutOk (K : Fg) (H G' H' : Hp) : Out → V → Prop
  | .fz t, v => Rel K G' t v
  | .nw t, v => ∃ p, v = .ref p ∧ H p = none ∧ G' p = none ∧ Own K G' H' t p
def rT (K : Fg) (F : List T → Option Out) : List V → Hp → VK → Prop := fun vs H Q => ∃ G ts o, Le G H ∧ Peeks K G H ts vs ∧ F ts = some o ∧ ∀ G' H' v, Ext G H G' H' → OutOk K H G' H' o v → Q v H'
def r2T (K : Fg) (F : T → T → Option Out) : R2 := fun x y H Q => ∃ G a b o, Le G H ∧ Peek K G H a x ∧ Peek K G H b y ∧ F a b = some o ∧ ∀ G' H' v, Ext G H G' H' → OutOk K H G' H' o v → Q v H'
def r1T (K : Fg) (F : T → Option Out) : V → Hp → VK → Prop := fun x H Q => ∃ G a o, Le G H ∧ Peek K G H a x ∧ F a = some o ∧ ∀ G' H' v, Ext G H G' H' → OutOk K H G' H' o v → Q v H'

section
variable {K : Fg} {σ : L2.St} {G H G1 H1 : Hp} {cs : Cs} {o : Out} {v : V}
theorem OutOk.rs (R : SR K G H cs σ) (x : Ext G H G1 H1) (h : OutOk K H G1 H1 o v) : RsOk K G1 H1 cs σ o.rs v ∧ Young H o.rs v := by
  cases o with
  | fz t => exact ⟨h, trivial⟩
  | nw t =>
    obtain ⟨p, rfl, n, ng, ow⟩ := h
    refine ⟨⟨p, rfl, ng, ow, fun z => (R.own_ne z).1 n⟩, fun q e => ?_⟩
    cases e; exact n
end

def mOp (F : T → T → Option Out) (ma mb : ME) : ME := fun cs => match ma cs with
  | some (ra, cs1) => match mb cs1 with
    | some (rb, cs2) => match pk ra cs2, pk rb cs2 with
      | some a, some b => match F a b with
        | some o => some (o.rs, cs2)
        | none => none
      | _, _ => none
    | none => none
  | none => none
def mUn (F : T → Option Out) (ma : ME) : ME := fun cs => match ma cs with
  | some (ra, cs1) => match pk ra cs1 with
    | some a => match F a with
      | some o => some (o.rs, cs1)
      | none => none
    | _ => none
  | none => none
section
variable {X : Cx} {e a b : Expr} {m ma mb : ME} {pos : Pos} {K : Fg} {σ : L2.St} {H : Hp} {Q : VK}
theorem imp_op {F : T → T → Option Out} (h : tS K (mOp F ma mb) σ H Q) : tOp (r2T K F) (tS K ma) (tS K mb) σ H Q := by
  obtain ⟨G, cs, R, r, cs', e, k⟩ := h
  simp only [mOp] at e
  split at e
  · rename_i ra cs1 h1
    split at e
    · rename_i rb cs2 h2
      split at e
      · rename_i ta tb ha hb
        split at e
        · rename_i o ho
          cases e
          refine ⟨G, cs, R, ra, cs1, h1, fun G1 H1 v f1 R1 ok1 y1 => ⟨G1, cs1, R1, rb, cs', h2, fun G2 H2 u f2 R2 ok2 y2 => ?_⟩⟩
          refine ⟨G2, ta, tb, o, R2.le, (ok1.mono f2).peek R2 ha, ok2.peek R2 hb, ho, fun G3 H3 w x oo => ?_⟩
          obtain ⟨q1, q2⟩ := oo.rs R2 x
          exact k G3 H3 w ((f1.trans f2).trans (.ext x)) (R2.ext x) q1 (q2.mono fun p n => (f1.toFr.trans f2.toFr).dom p n)
        · cases e
      · cases e
    · cases e
  · cases e
theorem imp_un {F : T → Option Out} (h : tS K (mUn F ma) σ H Q) : tUn (r1T K F) (tS K ma) σ H Q := by
  obtain ⟨G, cs, R, r, cs', e, k⟩ := h
  simp only [mUn] at e
  split at e
  · rename_i ra cs1 h1
    split at e
    · rename_i ta ha
      split at e
      · rename_i o ho
        cases e
        refine ⟨G, cs, R, ra, cs', h1, fun G1 H1 v f1 R1 ok1 y1 => ?_⟩
        refine ⟨G1, ta, o, R1.le, ok1.peek R1 ha, ho, fun G3 H3 w x oo => ?_⟩
        obtain ⟨q1, q2⟩ := oo.rs R1 x
        exact k G3 H3 w (f1.trans (.ext x)) (R1.ext x) q1 (q2.mono fun p n => f1.toFr.dom p n)
      · cases e
    · cases e
  · cases e
theorem se_op {op : Operator} {F : T → T → Option Out} (ho : OpR X (binaryOp op) (r2T X.K F)) (ha : SE X a ma) (hb : SE X b mb) : SE X (.BinOp a op b pos) (mOp F ma mb) :=
  PE.imp (pe_op ho ha hb) fun _ _ _ h => imp_op h
theorem se_un {op : UnaryOp} {F : T → Option Out} (ho : UnR X (unaryOp op) (r1T X.K F)) (ha : SE X a ma) : SE X (.UnaryOp op a pos) (mUn F ma) :=
  PE.imp (pe_un ho ha) fun _ _ _ h => imp_un h
theorem se_cmp {op : CmpOp} {F : T → T → Option Out} (ho : OpR X (compareOp op) (r2T X.K F)) (ha : SE X a ma) (hb : SE X b mb) (hm : behindInMarks op b = false) : SE X (.Compare a [op] [b] pos) (mOp F ma mb) :=
  PE.imp (pe_cmpR ho ha hb hm) fun _ _ _ h => imp_op h
theorem se_ix {F : T → T → Option Out} (ho : IxR X (r2T X.K F)) (ha : SE X a ma) (hb : SE X b mb) (hs : PlainIx b) : SE X (.Subscript a b pos) (mOp F ma mb) :=
  PE.imp (pe_ix ho ha hb hs) fun _ _ _ h => imp_op h
end

/-! ### tests -/
abbrev MT := Cs → Option (Bool × Cs)
def tT (K : Fg) (m : MT) : TT := fun σ H Q => ∃ G cs, SR K G H cs σ ∧ ∃ b cs', m cs = some (b, cs') ∧
  ∀ G' H', FrE σ G H cs G' H' cs' → SR K G' H' cs' σ → Q b H'
abbrev ST (X : Cx) (e : Expr) (m : MT) : Prop := PT X e (tT X.K m)
abbrev SW (X : Cx) (e : Expr) (m : MT) : Prop := PW X e (tT X.K m)
def asB (m : ME) : MT := fun cs => match m cs with
  | some (.fz (.bool b), cs1) => some (b, cs1)
  | _ => none
section
variable {X : Cx} {e a b c : Expr} {m ma mb mc : ME} {ta tb tc : MT} {pos : Pos} {K : Fg} {σ : L2.St} {H : Hp}
theorem imp_asB {Q : Bool → Hp → Prop} (h : tT K (asB m) σ H Q) : tS K m σ H (fun x H1 => ∃ c, x = .bl c ∧ Q c H1) := by
  obtain ⟨G, cs, R, b, cs', e, k⟩ := h
  simp only [asB] at e
  split at e
  · rename_i b' cs1 h1
    cases e
    exact ⟨G, cs, R, _, _, h1, fun G1 H1 v f R1 ok y => by cases ok; exact ⟨_, rfl, k G1 H1 f R1⟩⟩
  · cases e
theorem st_val (h : SE X e m) (he : ∀ whole, isTrue e X.env whole = (do let v ← whole; standAt e.pos; holding [v] (truthy v)) := by intro _; rfl) : ST X e (asB m) :=
  PT.imp (pt_val h he) fun _ _ _ q => imp_asB q
theorem st_cmp {op : CmpOp} {F : T → T → Option Out} (ho : OpR X (compareOp op) (r2T X.K F)) (ha : SE X a ma) (hb : SE X b mb) (hm : behindInMarks op b = false) : ST X (.Compare a [op] [b] pos) (asB (mOp F ma mb)) :=
  PT.imp (pt_cmpR ho ha hb hm) fun _ _ _ h => imp_op (imp_asB h)
def mtNot (m : MT) : MT := fun cs => match m cs with
  | some (b, cs1) => some (!b, cs1)
  | none => none
def mtAnd (m n : MT) : MT := fun cs => match m cs with
  | some (true, cs1) => n cs1
  | some (false, cs1) => some (false, cs1)
  | none => none
def mtOr (m n : MT) : MT := fun cs => match m cs with
  | some (true, cs1) => some (true, cs1)
  | some (false, cs1) => n cs1
  | none => none
theorem imp_tnot {Q : Bool → Hp → Prop} (h : tT K (mtNot ta) σ H Q) : tNot (tT K ta) σ H Q := by
  obtain ⟨G, cs, R, b, cs', e, k⟩ := h
  simp only [mtNot] at e
  split at e
  · rename_i b' cs1 h1
    cases e
    exact ⟨G, cs, R, _, _, h1, fun G1 H1 f R1 => k G1 H1 f R1⟩
  · cases e
theorem imp_tand {Q : Bool → Hp → Prop} (h : tT K (mtAnd ta tb) σ H Q) : tAnd (tT K ta) (tT K tb) σ H Q := by
  obtain ⟨G, cs, R, b, cs', e, k⟩ := h
  simp only [mtAnd] at e
  split at e
  · rename_i cs1 h1
    refine ⟨G, cs, R, _, _, h1, fun G1 H1 f R1 => ?_⟩
    refine iteT ?_
    exact ⟨G1, cs1, R1, b, cs', e, fun G2 H2 f2 R2 => k G2 H2 (f.trans f2) R2⟩
  · rename_i cs1 h1
    cases e
    refine ⟨G, cs, R, _, _, h1, fun G1 H1 f R1 => ?_⟩
    refine iteF ?_
    exact k G1 H1 f R1
  · cases e
theorem imp_tor {Q : Bool → Hp → Prop} (h : tT K (mtOr ta tb) σ H Q) : tOr (tT K ta) (tT K tb) σ H Q := by
  obtain ⟨G, cs, R, b, cs', e, k⟩ := h
  simp only [mtOr] at e
  split at e
  · rename_i cs1 h1
    cases e
    refine ⟨G, cs, R, _, _, h1, fun G1 H1 f R1 => ?_⟩
    refine iteT ?_
    exact k G1 H1 f R1
  · rename_i cs1 h1
    refine ⟨G, cs, R, _, _, h1, fun G1 H1 f R1 => ?_⟩
    refine iteF ?_
    exact ⟨G1, cs1, R1, b, cs', e, fun G2 H2 f2 R2 => k G2 H2 (f.trans f2) R2⟩
  · cases e
theorem st_not (h : ST X a ta) : ST X (.UnaryOp .Not a pos) (mtNot ta) := PT.imp (pt_not h) fun _ _ _ q => imp_tnot q
theorem sw_and1 (h : ST X a ta) : SW X (.BoolOp .And [a] pos) ta := pw_and1 h
theorem sw_or1 (h : ST X a ta) : SW X (.BoolOp .Or [a] pos) ta := pw_or1 h
theorem sw_and {rest : List Expr} (h : ST X a ta) (h' : SW X (.BoolOp .And (b :: rest) pos) tb) : SW X (.BoolOp .And (a :: b :: rest) pos) (mtAnd ta tb) := PW.imp (pw_and h h') fun _ _ _ q => imp_tand q
theorem sw_or {rest : List Expr} (h : ST X a ta) (h' : SW X (.BoolOp .Or (b :: rest) pos) tb) : SW X (.BoolOp .Or (a :: b :: rest) pos) (mtOr ta tb) := PW.imp (pw_or h h') fun _ _ _ q => imp_tor q
theorem st_w (h : SW X e ta) : ST X e ta := h.pt
/-- as values -/
def mNotV (m : ME) : ME := fun cs => match asB m cs with
  | some (b, cs1) => some (.fz (.bool (!b)), cs1)
  | none => none
def mAndV (m n : ME) : ME := fun cs => match asB m cs with
  | some (true, cs1) => n cs1
  | some (false, cs1) => some (.fz (.bool false), cs1)
  | none => none
def mOrV (m n : ME) : ME := fun cs => match asB m cs with
  | some (true, cs1) => some (.fz (.bool true), cs1)
  | some (false, cs1) => n cs1
  | none => none
def mIf (t : MT) (m n : ME) : ME := fun cs => match t cs with
  | some (true, cs1) => m cs1
  | some (false, cs1) => n cs1
  | none => none
theorem Young.up {σ : L2.St} {G H G1 H1 : Hp} {cs cs1 : Cs} {r : Rs} {v : V} (f : FrE σ G H cs G1 H1 cs1) (y : Young H1 r v) : Young H r v := y.mono f.toFr.dom
theorem imp_notV {Q : VK} (h : tS K (mNotV ma) σ H Q) : tNotV (tS K ma) σ H Q := by
  obtain ⟨G, cs, R, r, cs', e, k⟩ := h
  simp only [mNotV] at e
  split at e
  · rename_i b' cs1 h1
    cases e
    exact imp_asB (Q := fun c H1 => Q (.bl (!c)) H1) ⟨G, cs, R, _, _, h1, fun G1 H1 f R1 => k G1 H1 _ f R1 (.bl _) trivial⟩
  · cases e
theorem imp_andV {Q : VK} (h : tS K (mAndV ma mb) σ H Q) : tAndV (tS K ma) (tS K mb) σ H Q := by
  obtain ⟨G, cs, R, r, cs', e, k⟩ := h
  simp only [mAndV] at e
  split at e
  · rename_i cs1 h1
    refine imp_asB (Q := fun c H1 => if c = true then tS K mb σ H1 Q else Q (.bl false) H1) ⟨G, cs, R, _, _, h1, fun G1 H1 f R1 => ?_⟩
    refine iteT ?_
    exact ⟨G1, cs1, R1, r, cs', e, fun G2 H2 v f2 R2 ok y => k G2 H2 v (f.trans f2) R2 ok (y.up f)⟩
  · rename_i cs1 h1
    cases e
    refine imp_asB (Q := fun c H1 => if c = true then tS K mb σ H1 Q else Q (.bl false) H1) ⟨G, cs, R, _, _, h1, fun G1 H1 f R1 => ?_⟩
    refine iteF ?_
    exact k G1 H1 _ f R1 (.bl _) trivial
  · cases e
theorem imp_orV {Q : VK} (h : tS K (mOrV ma mb) σ H Q) : tOrV (tS K ma) (tS K mb) σ H Q := by
  obtain ⟨G, cs, R, r, cs', e, k⟩ := h
  simp only [mOrV] at e
  split at e
  · rename_i cs1 h1
    cases e
    refine imp_asB (Q := fun c H1 => if c = true then Q (.bl true) H1 else tS K mb σ H1 Q) ⟨G, cs, R, _, _, h1, fun G1 H1 f R1 => ?_⟩
    refine iteT ?_
    exact k G1 H1 _ f R1 (.bl _) trivial
  · rename_i cs1 h1
    refine imp_asB (Q := fun c H1 => if c = true then Q (.bl true) H1 else tS K mb σ H1 Q) ⟨G, cs, R, _, _, h1, fun G1 H1 f R1 => ?_⟩
    refine iteF ?_
    exact ⟨G1, cs1, R1, r, cs', e, fun G2 H2 v f2 R2 ok y => k G2 H2 v (f.trans f2) R2 ok (y.up f)⟩
  · cases e
theorem imp_if {Q : VK} (h : tS K (mIf tc ma mb) σ H Q) : tIf (tT K tc) (tS K ma) (tS K mb) σ H Q := by
  obtain ⟨G, cs, R, r, cs', e, k⟩ := h
  simp only [mIf] at e
  split at e
  · rename_i cs1 h1
    refine ⟨G, cs, R, _, _, h1, fun G1 H1 f R1 => ?_⟩
    refine iteT ?_
    exact ⟨G1, cs1, R1, r, cs', e, fun G2 H2 v f2 R2 ok y => k G2 H2 v (f.trans f2) R2 ok (y.up f)⟩
  · rename_i cs1 h1
    refine ⟨G, cs, R, _, _, h1, fun G1 H1 f R1 => ?_⟩
    refine iteF ?_
    exact ⟨G1, cs1, R1, r, cs', e, fun G2 H2 v f2 R2 ok y => k G2 H2 v (f.trans f2) R2 ok (y.up f)⟩
  · cases e
theorem se_not (h : SE X a ma) : SE X (.UnaryOp .Not a pos) (mNotV ma) := PE.imp (pe_not h) fun _ _ _ q => imp_notV q
theorem se_one {op} (h : SE X a ma) : SE X (.BoolOp op [a] pos) ma := pe_one h
theorem se_and {rest : List Expr} (h : SE X a ma) (h' : SE X (.BoolOp .And (b :: rest) pos) mb) : SE X (.BoolOp .And (a :: b :: rest) pos) (mAndV ma mb) := PE.imp (pe_and h h') fun _ _ _ q => imp_andV q
theorem se_or {rest : List Expr} (h : SE X a ma) (h' : SE X (.BoolOp .Or (b :: rest) pos) mb) : SE X (.BoolOp .Or (a :: b :: rest) pos) (mOrV ma mb) := PE.imp (pe_or h h') fun _ _ _ q => imp_orV q
theorem se_if (hc : ST X c tc) (ha : SE X a ma) (hb : SE X b mb) : SE X (.IfExp c a b pos) (mIf tc ma mb) := PE.imp (pe_ifExp hc ha hb) fun _ _ _ q => imp_if q
/-- a op b op' c -/
def mChain (F F' : T → T → Option Out) (ma mb mc : ME) : ME := fun cs => match ma cs with
  | some (ra, cs1) => match mb cs1 with
    | some (rb, cs2) => match pk ra cs2, pk rb cs2 with
      | some a, some b => match F a b with
        | some (.fz (.bool true)) => match mc cs2 with
          | some (rc, cs3) => match pk rb cs3, pk rc cs3 with
            | some b', some c => match F' b' c with
              | some o => some (o.rs, cs3)
              | none => none
            | _, _ => none
          | none => none
        | some (.fz (.bool false)) => some (.fz (.bool false), cs2)
        | _ => none
      | _, _ => none
    | none => none
  | none => none
theorem imp_chain {F F' : T → T → Option Out} {Q : VK} (h : tS K (mChain F F' ma mb mc) σ H Q) : tChain (r2T K F) (r2T K F') (tS K ma) (tS K mb) (tS K mc) σ H Q := by
  obtain ⟨G, cs, R, r, cs', e, k⟩ := h
  simp only [mChain] at e
  split at e
  · rename_i ra cs1 h1
    split at e
    · rename_i rb cs2 h2
      split at e
      · rename_i ta tb ha hb
        refine ⟨G, cs, R, ra, cs1, h1, fun G1 H1 v f1 R1 ok1 y1 => ⟨G1, cs1, R1, rb, cs2, h2, fun G2 H2 u f2 R2 ok2 y2 => ?_⟩⟩
        split at e
        · rename_i ho
          refine ⟨G2, ta, tb, _, R2.le, (ok1.mono f2).peek R2 ha, ok2.peek R2 hb, ho, fun G3 H3 w x oo => ?_⟩
          cases oo
          refine ⟨true, rfl, ?_⟩
          refine iteT ?_
          split at e
          · rename_i rc cs3 h3
            split at e
            · rename_i tb' tc' hb' hc'
              split at e
              · rename_i o ho'
                cases e
                have R3 := R2.ext x
                refine ⟨G3, cs2, R3, rc, cs', h3, fun G4 H4 w f4 R4 ok4 y4 => ?_⟩
                refine ⟨G4, tb', tc', o, R4.le, ((ok2.mono (.ext x)).mono f4).peek R4 hb', ok4.peek R4 hc', ho', fun G5 H5 z x5 oo5 => ?_⟩
                obtain ⟨q1, q2⟩ := oo5.rs R4 x5
                have ff := ((f1.trans f2).trans (.ext x)).trans f4
                exact k G5 H5 z (ff.trans (.ext x5)) (R4.ext x5) q1 (q2.up ff)
              · cases e
            · cases e
          · cases e
        · rename_i ho
          cases e
          refine ⟨G2, ta, tb, _, R2.le, (ok1.mono f2).peek R2 ha, ok2.peek R2 hb, ho, fun G3 H3 w x oo => ?_⟩
          cases oo
          refine ⟨false, rfl, ?_⟩
          refine iteF ?_
          exact k G3 H3 _ ((f1.trans f2).trans (.ext x)) (R2.ext x) (.bl _) trivial
        · cases e
      · cases e
    · cases e
  · cases e
theorem se_chain {op op' : CmpOp} {F F' : T → T → Option Out} (ho : OpR X (compareOp op) (r2T X.K F)) (ho' : OpR X (compareOp op') (r2T X.K F')) (ha : SE X a ma) (hb : SE X b mb) (hc : SE X c mc)
    (hm : lastMarks [op, op'] [b, c] = false := by with_unfolding_all rfl) : SE X (.Compare a [op, op'] [b, c] pos) (mChain F F' ma mb mc) := PE.imp (pe_chain ho ho' ha hb hc hm) fun _ _ _ h => imp_chain h
theorem st_chain {op op' : CmpOp} {F F' : T → T → Option Out} (ho : OpR X (compareOp op) (r2T X.K F)) (ho' : OpR X (compareOp op') (r2T X.K F')) (ha : SE X a ma) (hb : SE X b mb) (hc : SE X c mc)
    (hm : lastMarks [op, op'] [b, c] = false := by with_unfolding_all rfl) : ST X (.Compare a [op, op'] [b, c] pos) (asB (mChain F F' ma mb mc)) := PT.imp (pt_chain ho ho' ha hb hc hm) fun _ _ _ h => imp_chain (imp_asB h)
end
end TL
namespace TL
open PySem PySem.Spec L2

/-! ### argument lists -/
inductive RsAll (K : Fg) (G H : Hp) (cs : Cs) (σ : L2.St) : List Rs → List V → Prop
  | nil : RsAll K G H cs σ [] []
  | cons {r : Rs} {v : V} {rs : List Rs} {vs : List V} : RsOk K G H cs σ r v → RsAll K G H cs σ rs vs → RsAll K G H cs σ (r :: rs) (v :: vs)
abbrev MA := Cs → Option (List Rs × Cs)
def tA (K : Fg) (m : MA) : TA := fun σ H Q => ∃ G cs, SR K G H cs σ ∧ ∃ rs cs', m cs = some (rs, cs') ∧
  ∀ G' H' vs, FrE σ G H cs G' H' cs' → SR K G' H' cs' σ → RsAll K G' H' cs' σ rs vs → Q vs H'
abbrev SA (X : Cx) (es : List Expr) (m : MA) : Prop := PA X es (tA X.K m)
def mNil : MA := fun cs => some ([], cs)
def mCons (m : ME) (ms : MA) : MA := fun cs => match m cs with
  | some (r, cs1) => match ms cs1 with
    | some (rs, cs2) => some (r :: rs, cs2)
    | none => none
  | none => none
def pks : List Rs → Cs → Option (List T)
  | [], _ => some []
  | r :: rs, cs => match pk r cs with
    | some t => match pks rs cs with
      | some ts => some (t :: ts)
      | none => none
    | none => none
def fzs : List Rs → Option (List T)
  | [] => some []
  | .fz t :: rs => match fzs rs with
    | some ts => some (t :: ts)
    | none => none
  | _ => none
section
variable {K : Fg} {σ : L2.St} {G H G1 H1 : Hp} {cs cs1 : Cs}
theorem RsAll.mono : ∀ {rs : List Rs} {vs : List V}, RsAll K G H cs σ rs vs → FrE σ G H cs G1 H1 cs1 → RsAll K G1 H1 cs1 σ rs vs
  | _, _, .nil, _ => .nil
  | _, _, .cons a b, f => .cons (a.mono f) (RsAll.mono b f)
theorem RsAll.peeks (R : SR K G H cs σ) : ∀ {rs : List Rs} {vs : List V} {ts : List T}, RsAll K G H cs σ rs vs → pks rs cs = some ts → Peeks K G H ts vs
  | _, _, _, .nil, e => by cases e; exact .nil
  | r :: rs, _, _, .cons a b, e => by
    simp only [pks] at e
    split at e
    · rename_i t ht
      split at e
      · rename_i ts hts
        cases e
        exact .cons (a.peek R ht) (RsAll.peeks R b hts)
      · cases e
    · cases e
theorem RsAll.fzs : ∀ {rs : List Rs} {vs : List V} {ts : List T}, RsAll K G H cs σ rs vs → fzs rs = some ts → Rels K G ts vs
  | _, _, _, .nil, e => by cases e; exact .nil
  | .fz t :: rs, _, _, .cons a b, e => by
    simp only [TL.fzs] at e
    split at e
    · rename_i ts hts
      cases e
      exact .cons a (RsAll.fzs b hts)
    · cases e
  | .sl _ :: rs, _, _, .cons a b, e => by cases e
  | .nw _ :: rs, _, _, .cons a b, e => by cases e
end
section
variable {X : Cx} {e : Expr} {es : List Expr} {m : ME} {ms : MA} {K : Fg} {σ : L2.St} {H : Hp}
theorem sa_nil : SA X [] mNil := PA.imp pa_nil fun σ H Q ⟨G, cs, R, rs, cs', e, k⟩ => by
  cases e
  exact k G H [] .refl R .nil
theorem imp_cons {Q : List V → Hp → Prop} (h : tA K (mCons m ms) σ H Q) : tCons (tS K m) (tA K ms) σ H Q := by
  obtain ⟨G, cs, R, rs, cs', e, k⟩ := h
  simp only [mCons] at e
  split at e
  · rename_i r cs1 h1
    split at e
    · rename_i rs cs2 h2
      cases e
      refine ⟨G, cs, R, r, cs1, h1, fun G1 H1 v f1 R1 ok1 y1 => ⟨G1, cs1, R1, rs, cs', h2, fun G2 H2 vs f2 R2 ok2 => ?_⟩⟩
      exact k G2 H2 (v :: vs) (f1.trans f2) R2 (.cons (ok1.mono f2) ok2)
    · cases e
  · cases e
theorem sa_cons (ha : SE X e m) (hr : SA X es ms) (hs : starEach (e :: es) X.env = (false, eval e X.env) :: starEach es X.env := by rfl) : SA X (e :: es) (mCons m ms) :=
  PA.imp (pa_cons ha hr hs) fun _ _ _ h => imp_cons h
end

/-! ### displays -/
def mTup (ms : MA) : ME := fun cs => match ms cs with
  | some (rs, cs1) => match fzs rs with
    | some ts => if ts.length ≤ sizeLine then some (.fz (.tuple ts), cs1) else none
    | none => none
  | none => none
def mLst (ms : MA) : ME := fun cs => match ms cs with
  | some (rs, cs1) => match fzs rs with
    | some ts => if ts.length ≤ sizeLine then some (.nw (.list ts), cs1) else none
    | none => none
  | none => none
def mCall (F : List T → Option Out) (ms : MA) : ME := fun cs => match ms cs with
  | some (rs, cs1) => match pks rs cs1 with
    | some ts => match F ts with
      | some o => some (o.rs, cs1)
      | none => none
    | none => none
  | none => none
section
variable {X : Cx} {e : Expr} {es : List Expr} {m : ME} {ms : MA} {K : Fg} {σ : L2.St} {H : Hp} {Q : VK} {pos p : Pos}
theorem imp_tup (h : tS K (mTup ms) σ H Q) : tTup (tA K ms) σ H Q := by
  obtain ⟨G, cs, R, r, cs', e, k⟩ := h
  simp only [mTup] at e
  split at e
  · rename_i rs cs1 h1
    split at e
    · rename_i ts h2
      split at e
      · rename_i hl
        cases e
        refine ⟨G, cs, R, rs, cs', h1, fun G1 H1 vs f R1 ok => ?_⟩
        have rel := ok.fzs h2
        refine ⟨by rw [rel.length]; exact hl, fun p np => ?_⟩
        have x := Ext.both R1.le np (o := .tup vs) trivial
        exact k _ _ _ (f.trans (.ext x)) (R1.ext x) (.tup upd_same (rel.mono x.g)) trivial
      · cases e
    · cases e
  · cases e
theorem imp_lst (h : tS K (mLst ms) σ H Q) : tLst (tA K ms) σ H Q := by
  obtain ⟨G, cs, R, r, cs', e, k⟩ := h
  simp only [mLst] at e
  split at e
  · rename_i rs cs1 h1
    split at e
    · rename_i ts h2
      split at e
      · rename_i hl
        cases e
        refine ⟨G, cs, R, rs, cs', h1, fun G1 H1 vs f R1 ok => ?_⟩
        have rel := ok.fzs h2
        refine ⟨by rw [rel.length]; exact hl, fun p np => ?_⟩
        have x := Ext.own R1.le np (o := .lst vs)
        have R2 := R1.ext x
        refine k _ _ _ (f.trans (.ext x)) R2 ⟨p, rfl, R1.le.dom p np, .lst upd_same rel, fun z => (R1.own_ne z).1 np⟩ fun q e => ?_
        cases e
        exact f.toFr.dom p np
      · cases e
    · cases e
  · cases e
theorem imp_call {F : List T → Option Out} (h : tS K (mCall F ms) σ H Q) : tCB (rT K F) (tA K ms) σ H Q := by
  obtain ⟨G, cs, R, r, cs', e, k⟩ := h
  simp only [mCall] at e
  split at e
  · rename_i rs cs1 h1
    split at e
    · rename_i ts h2
      split at e
      · rename_i o ho
        cases e
        refine ⟨G, cs, R, rs, cs', h1, fun G1 H1 vs f R1 ok => ⟨G1, ts, o, R1.le, ok.peeks R1 h2, ho, fun G2 H2 v x oo => ?_⟩⟩
        obtain ⟨q1, q2⟩ := oo.rs R1 x
        exact k G2 H2 v (f.trans (.ext x)) (R1.ext x) q1 (q2.up f)
      · cases e
    · cases e
  · cases e
theorem se_tup {x1} (h : SA X es ms) : SE X (.Tuple es x1 pos) (mTup ms) := PE.imp (pe_tup h) fun _ _ _ q => imp_tup q
theorem se_lst (h : SA X es ms) : SE X (.List es pos) (mLst ms) := PE.imp (pe_lst h) fun _ _ _ q => imp_lst q
theorem se_callB {x : Str} {id : String} {F : List T → Option Out} (hc : CallR X (.builtin id) (rT X.K F)) (hg : Gl X x) (hm : X.mg x = none) (hv : bootBuiltins x = some (.builtin id)) (ha : SA X (e :: es) ms) (hn : x ≠ "__name__" := by decide) (hdb : (x == ("__debug__" : Str)) = false := by decide)
    (he : starEach (e :: es) X.env = (false, eval e X.env) :: starEach es X.env := by rfl) (hpl : (backTo pos (starEach es X.env)).any (·.1) = false := by rfl) : SE X (.Call (.Name x p) (e :: es) [] pos) (mCall F ms) :=
  PE.imp (pe_callB hc hg hm hv ha hn hdb he hpl) fun _ _ _ q => imp_call q
theorem se_callTy {x : Str} {id : String} {F : List T → Option Out} (hc : CallR X (.type id) (rT X.K F)) (hg : Gl X x) (hm : X.mg x = none) (hv : bootBuiltins x = some (.type id)) (ha : SA X (e :: es) ms) (hn : x ≠ "__name__" := by decide) (hdb : (x == ("__debug__" : Str)) = false := by decide)
    (he : starEach (e :: es) X.env = (false, eval e X.env) :: starEach es X.env := by rfl) (hpl : (backTo pos (starEach es X.env)).any (·.1) = false := by rfl) : SE X (.Call (.Name x p) (e :: es) [] pos) (mCall F ms) :=
  PE.imp (pe_callTy hc hg hm hv ha hn hdb he hpl) fun _ _ _ q => imp_call q
end

/-! ### statements -/
inductive Fl where
  | nx | bk | ct
  | rt (o : Out)
abbrev MS := Cs → Option (Fl × Cs)
def BoAt (cs : Cs) (σ : L2.St) (p : Addr) : Prop := ∃ (i : Nat) (t : T), cs[i]? = some (Cell.bo t) ∧ σ[i]? = some (some (V.ref p))
def RtOk (K : Fg) (σ : L2.St) (H : Hp) (cs : Cs) (σ' : L2.St) (G' H' : Hp) (cs' : Cs) : Out → V → Prop
  | .fz t, v => Rel K G' t v
  | .nw t, v => ∃ p, v = .ref p ∧ G' p = none ∧ Own K G' H' t p ∧ ¬ BoAt cs' σ' p ∧ (OwnAt cs σ p ∨ H p = none)
def After (K : Fg) (D : Ends) (σ : L2.St) (G H : Hp) (cs : Cs) (cs' : Cs) : Fl → Prop
  | .nx => ∀ σ' G' H', Fr σ G H cs σ' G' H' cs' → SR K G' H' cs' σ' → D.nx σ' H'
  | .bk => ∀ σ' G' H', Fr σ G H cs σ' G' H' cs' → SR K G' H' cs' σ' → D.bk σ' H'
  | .ct => ∀ σ' G' H', Fr σ G H cs σ' G' H' cs' → SR K G' H' cs' σ' → D.ct σ' H'
  | .rt o => ∀ σ' G' H' v, Fr σ G H cs σ' G' H' cs' → SR K G' H' cs' σ' → RtOk K σ H cs σ' G' H' cs' o v → D.rt v H'
def tSt (K : Fg) (m : MS) : TS := fun D σ H => ∃ G cs, SR K G H cs σ ∧ ∃ fl cs', m cs = some (fl, cs') ∧ After K D σ G H cs cs' fl
abbrev SS (X : Cx) (st : Stmt) (m : MS) : Prop := PS X st (tSt X.K m)
abbrev SSs (X : Cx) (st : List Stmt) (m : MS) : Prop := PSs X st (tSt X.K m)

section
variable {K : Fg} {D : Ends} {σ σ1 : L2.St} {G H G1 H1 : Hp} {cs cs1 cs2 : Cs} {fl : Fl}
/-- what is wanted behind the whole is wanted behind the rest -/
theorem After.rest (a : After K D σ G H cs cs2 fl) (f : Fr σ G H cs σ1 G1 H1 cs1) : After K D σ1 G1 H1 cs1 cs2 fl := by
  cases fl with
  | nx => exact fun σ' G' H' g R => a σ' G' H' (f.trans g) R
  | bk => exact fun σ' G' H' g R => a σ' G' H' (f.trans g) R
  | ct => exact fun σ' G' H' g R => a σ' G' H' (f.trans g) R
  | rt o =>
    refine fun σ' G' H' v g R k => a σ' G' H' v (f.trans g) R ?_
    cases o with
    | fz t => exact k
    | nw t =>
      obtain ⟨p, e, n, w, b, z⟩ := k
      refine ⟨p, e, n, w, b, ?_⟩
      rcases z with z | z
      · exact f.own p z
      · exact .inr (f.dom p z)
end
def sNil : MS := fun cs => some (.nx, cs)
def sSeq (m n : MS) : MS := fun cs => match m cs with
  | some (.nx, cs1) => n cs1
  | some (.bk, cs1) => some (.bk, cs1)
  | some (.ct, cs1) => some (.ct, cs1)
  | some (.rt o, cs1) => some (.rt o, cs1)
  | none => none
def sIf (t : MT) (m n : MS) : MS := fun cs => match t cs with
  | some (true, cs1) => m cs1
  | some (false, cs1) => n cs1
  | none => none
def sBreak : MS := fun cs => some (.bk, cs)
def sCont : MS := fun cs => some (.ct, cs)
def sExpr (m : ME) : MS := fun cs => match m cs with
  | some (_, cs1) => some (.nx, cs1)
  | none => none
/-- what a return hands out -/
def outOf (r : Rs) (cs : Cs) : Option Out := match r with
  | .fz t => some (.fz t)
  | .nw t => some (.nw t)
  | .sl i => match cs[i]? with
    | some (.fz t) => some (.fz t)
    | some (.ow t) => some (.nw t)
    | _ => none
def sRet (m : ME) : MS := fun cs => match m cs with
  | some (r, cs1) => match outOf r cs1 with
    | some o => some (.rt o, cs1)
    | none => none
  | none => none
section
variable {X : Cx} {e c : Expr} {st : Stmt} {rest a b : List Stmt} {m : ME} {s n : MS} {t : MT} {K : Fg} {D : Ends} {σ : L2.St} {H : Hp} {pos : Pos}
theorem imp_snil (h : tSt K sNil D σ H) : tNext D σ H := by
  obtain ⟨G, cs, R, fl, cs', e, k⟩ := h
  cases e
  exact k σ G H .refl R
theorem imp_seq (h : tSt K (sSeq s n) D σ H) : tSeq (tSt K s) (tSt K n) D σ H := by
  obtain ⟨G, cs, R, fl, cs', e, k⟩ := h
  simp only [sSeq] at e
  split at e
  · rename_i cs1 h1
    exact ⟨G, cs, R, .nx, cs1, h1, fun σ1 G1 H1 f R1 => ⟨G1, cs1, R1, fl, cs', e, k.rest f⟩⟩
  · rename_i cs1 h1
    cases e
    exact ⟨G, cs, R, .bk, _, h1, k⟩
  · rename_i cs1 h1
    cases e
    exact ⟨G, cs, R, .ct, _, h1, k⟩
  · rename_i o cs1 h1
    cases e
    exact ⟨G, cs, R, .rt _, _, h1, k⟩
  · cases e
theorem imp_sif (h : tSt K (sIf t s n) D σ H) : tIfS (tT K t) (tSt K s) (tSt K n) D σ H := by
  obtain ⟨G, cs, R, fl, cs', e, k⟩ := h
  simp only [sIf] at e
  split at e
  · rename_i cs1 h1
    refine ⟨G, cs, R, _, _, h1, fun G1 H1 f R1 => ?_⟩
    refine iteT ?_
    exact ⟨G1, cs1, R1, fl, cs', e, k.rest f.toFr⟩
  · rename_i cs1 h1
    refine ⟨G, cs, R, _, _, h1, fun G1 H1 f R1 => ?_⟩
    refine iteF ?_
    exact ⟨G1, cs1, R1, fl, cs', e, k.rest f.toFr⟩
  · cases e
theorem imp_sexpr (h : tSt K (sExpr m) D σ H) : tDrop (tS K m) D σ H := by
  obtain ⟨G, cs, R, fl, cs', e, k⟩ := h
  simp only [sExpr] at e
  split at e
  · rename_i r cs1 h1
    cases e
    exact ⟨G, cs, R, _, _, h1, fun G1 H1 v f R1 ok y => k σ G1 H1 f.toFr R1⟩
  · cases e
theorem imp_sret (h : tSt K (sRet m) D σ H) : tRet (tS K m) D σ H := by
  obtain ⟨G, cs, R, fl, cs', e, k⟩ := h
  simp only [sRet] at e
  split at e
  · rename_i r cs1 h1
    split at e
    · rename_i o ho
      cases e
      refine ⟨G, cs, R, _, _, h1, fun G1 H1 v f R1 ok y => k σ G1 H1 v f.toFr R1 ?_⟩
      cases r with
      | fz t => cases ho; exact ok
      | nw t =>
        cases ho
        obtain ⟨p, rfl, n, w, z⟩ := ok
        exact ⟨p, rfl, n, w, fun ⟨i, u, a, b⟩ => z ⟨i, u, .inr a, b⟩, .inr (y p rfl)⟩
      | sl i =>
        obtain ⟨ev, _⟩ := ok
        simp only [outOf] at ho
        split at ho
        · rename_i u hu
          cases ho
          obtain ⟨w, ew, rw'⟩ := R1.fz i _ hu
          rw [ev] at ew; cases ew
          exact rw'
        · rename_i u hu
          cases ho
          obtain ⟨p, ep, n, w⟩ := R1.ow i _ (.inl hu)
          rw [ev] at ep; cases ep
          refine ⟨p, rfl, n, w, fun ⟨j, u', a, b⟩ => ?_, f.toFr.own p ⟨i, u, .inl hu, ev⟩⟩
          have := R1.apart i j u u' p (.inl hu) (.inr a) ev b
          subst this
          rw [hu] at a; cases a
        · cases ho
    · cases e
  · cases e
theorem sss_nil : SSs X [] sNil := PSs.imp pss_nil fun _ _ _ h => imp_snil h
theorem sss_cons (h1 : SS X st s) (h2 : SSs X rest n) : SSs X (st :: rest) (sSeq s n) := PSs.imp (pss_cons h1 h2) fun _ _ _ h => imp_seq h
theorem sss_one (h1 : SS X st s) : SSs X [st] s := pss_one h1
theorem ss_pass : SS X (.Pass pos) sNil := PS.imp ps_pass fun _ _ _ h => imp_snil h
theorem ss_break : SS X (.Break pos) sBreak := PS.imp ps_break fun D σ H ⟨G, cs, R, fl, cs', e, k⟩ => by
  cases e
  exact k σ G H .refl R
theorem ss_cont : SS X (.Continue pos) sCont := PS.imp ps_continue fun D σ H ⟨G, cs, R, fl, cs', e, k⟩ => by
  cases e
  exact k σ G H .refl R
theorem ss_expr (he : SE X e m) (hs : swapsWith e none pos.line X.env = pure false := by rfl) : SS X (.Expr e pos) (sExpr m) := PS.imp (ps_expr he hs) fun _ _ _ h => imp_sexpr h
theorem ss_ret (he : SE X e m) : SS X (.Return (some e) pos) (sRet m) := PS.imp (ps_ret he) fun _ _ _ h => imp_sret h
theorem ss_if (hc : ST X c t) (ha : SSs X a s) (hb : SSs X b n) : SS X (.If c a b pos) (sIf t s n) := PS.imp (ps_if hc ha hb) fun _ _ _ h => imp_sif h
end

/-! ### stores -/
/-- a slot takes a result -/
def setR (i : Nat) (r : Rs) (cs : Cs) : Option Cs := match cs[i]? with
  | some (.bo _) => none
  | none => none
  | some _ => match r with
    | .fz t => some (cs.set i (.fz t))
    | .nw t => some (cs.set i (.ow t))
    | .sl j => match frz (.sl j) cs with
      | some (t, cs1) => some (cs1.set i (.fz t))
      | none => none
section
variable {K : Fg} {σ : L2.St} {G0 H0 G H : Hp} {cs0 cs cs1 : Cs} {r : Rs} {v : V} {i : Nat} {t : T}
theorem oc_set {c : Cell} {j : Nat} {u : T} (hi : i < cs.length) (h : OwC (cs.set i c) j u) : (j = i ∧ (c = .ow u ∨ c = .bo u)) ∨ (j ≠ i ∧ OwC cs j u) := by
  by_cases ne : j = i
  · subst ne
    refine .inl ⟨rfl, ?_⟩
    rcases h with h | h <;> rw [set_self hi] at h
    · exact .inl (Option.some.inj h)
    · exact .inr (Option.some.inj h)
  · refine .inr ⟨ne, ?_⟩
    rcases h with h | h <;> rw [set_other ne] at h
    · exact .inl h
    · exact .inr h
theorem put_fz (f : FrE σ G0 H0 cs0 G H cs) (R : SR K G H cs σ) (hb : ∀ u, cs[i]? ≠ some (Cell.bo u)) (hi : i < cs.length) (rel : Rel K G t v) :
    Fr σ G0 H0 cs0 (σ.set i (some v)) G H (cs.set i (.fz t)) ∧ SR K G H (cs.set i (.fz t)) (σ.set i (some v)) := by
  have hs : i < σ.length := by rw [← R.len]; exact hi
  have oc : ∀ {j : Nat} {u : T}, OwC (cs.set i (.fz t)) j u → j ≠ i ∧ OwC cs j u := fun {j u} h => by
    rcases oc_set hi h with ⟨_, h | h⟩ | h
    · cases h
    · cases h
    · exact h
  refine ⟨⟨f.g, f.keep, f.gfr, fun p ⟨j, u, a, b⟩ => ?_, f.hmo, fun j u e => ?_, fun j u e => ?_⟩, ⟨R.le, by rw [List.length_set, List.length_set]; exact R.len, fun j u e => ?_, fun j u e => ?_, fun j k u w p a b ea eb => ?_⟩⟩
  · obtain ⟨ne, a⟩ := oc a
    rw [set_other ne] at b
    exact f.own p ⟨j, u, a, b⟩
  · obtain ⟨t', e1, e2⟩ := f.bo j u e
    have ne : j ≠ i := by rintro rfl; exact hb _ e1
    exact ⟨t', by rw [set_other ne]; exact e1, by rw [set_other ne]⟩
  · have ne : j ≠ i := by rintro rfl; rw [set_self hi] at e; cases e
    rw [set_other ne] at e
    exact f.bo' j u e
  · by_cases ne : j = i
    · subst ne
      rw [set_self hi] at e; cases e
      exact ⟨v, set_self hs, rel⟩
    · rw [set_other ne] at e ⊢
      exact R.fz j u e
  · obtain ⟨ne, e⟩ := oc e
    rw [set_other ne]
    exact R.ow j u e
  · obtain ⟨n1, a⟩ := oc a
    obtain ⟨n2, b⟩ := oc b
    rw [set_other n1] at ea
    rw [set_other n2] at eb
    exact R.apart j k u w p a b ea eb
theorem setR_ok (f : FrE σ G0 H0 cs0 G H cs) (R : SR K G H cs σ) (ok : RsOk K G H cs σ r v) (y : Young H0 r v) (e : setR i r cs = some cs1) :
    ∃ G', Fr σ G0 H0 cs0 (σ.set i (some v)) G' H cs1 ∧ SR K G' H cs1 (σ.set i (some v)) := by
  simp only [setR] at e
  split at e
  · cases e
  · cases e
  · rename_i c hn hc
    have hi : i < cs.length := lt_of_get hc
    have hb : ∀ u, cs[i]? ≠ some (Cell.bo u) := fun u z => by
      rw [hc] at z; cases z
      exact hn u rfl
    have hs : i < σ.length := by rw [← R.len]; exact hi
    cases r with
    | fz t =>
      cases e
      exact ⟨G, put_fz f R hb hi ok⟩
    | sl j =>
      simp only at e
      split at e
      · rename_i t cs2 h2
        cases e
        obtain ⟨G2, f2, R2, rel⟩ := frz_ok f R ok y h2
        have hb2 : ∀ u, cs2[i]? ≠ some (Cell.bo u) := fun u z => by
          simp only [frz] at h2
          split at h2
          · cases h2; exact hb u z
          · rename_i w hw
            cases h2
            by_cases ne : i = j
            · subst ne; rw [set_self hi] at z; cases z
            · rw [set_other ne] at z; exact hb u z
          · cases h2
        have hi2 : i < cs2.length := by rw [R2.len]; exact hs
        exact ⟨G2, put_fz f2 R2 hb2 hi2 rel⟩
      · cases e
    | nw t =>
      cases e
      obtain ⟨p, rfl, n, o, h⟩ := ok
      have hp0 := y p rfl
      have oc : ∀ {j : Nat} {u : T}, OwC (cs.set i (.ow t)) j u → (j = i ∧ u = t) ∨ (j ≠ i ∧ OwC cs j u) := fun {j u} h => by
        rcases oc_set hi h with ⟨e, h | h⟩ | h
        · cases h; exact .inl ⟨e, rfl⟩
        · cases h
        · exact .inr h
      refine ⟨G, ⟨f.g, f.keep, f.gfr, fun q ⟨j, u, a, b⟩ => ?_, f.hmo, fun j u e => ?_, fun j u e => ?_⟩, ⟨R.le, by rw [List.length_set, List.length_set]; exact R.len, fun j u e => ?_, fun j u e => ?_, fun j k u w q a b ea eb => ?_⟩⟩
      · rcases oc a with ⟨rfl, _⟩ | ⟨ne, a⟩
        · rw [set_self hs] at b; cases b; exact .inr hp0
        · rw [set_other ne] at b
          exact f.own q ⟨j, u, a, b⟩
      · obtain ⟨t', e1, e2⟩ := f.bo j u e
        have ne : j ≠ i := by rintro rfl; exact hb _ e1
        exact ⟨t', by rw [set_other ne]; exact e1, by rw [set_other ne]⟩
      · have ne : j ≠ i := by rintro rfl; rw [set_self hi] at e; cases e
        rw [set_other ne] at e
        exact f.bo' j u e
      · have ne : j ≠ i := by rintro rfl; rw [set_self hi] at e; cases e
        rw [set_other ne] at e ⊢
        exact R.fz j u e
      · rcases oc e with ⟨rfl, rfl⟩ | ⟨ne, e⟩
        · exact ⟨p, set_self hs, n, o⟩
        · rw [set_other ne]
          exact R.ow j u e
      · rcases oc a with ⟨ej, _⟩ | ⟨n1, a1⟩
        · rcases oc b with ⟨ek, _⟩ | ⟨n2, b1⟩
          · rw [ej, ek]
          · rw [ej, set_self hs] at ea; cases ea
            rw [set_other n2] at eb
            exact absurd ⟨k, w, b1, eb⟩ h
        · rcases oc b with ⟨ek, _⟩ | ⟨n2, b1⟩
          · rw [ek, set_self hs] at eb; cases eb
            rw [set_other n1] at ea
            exact absurd ⟨j, u, a1, ea⟩ h
          · rw [set_other n1] at ea
            rw [set_other n2] at eb
            exact R.apart j k u w q a1 b1 ea eb
end
/-- x = e -/
def sSet (i : Nat) (m : ME) : MS := fun cs => match m cs with
  | some (r, cs1) => match setR i r cs1 with
    | some cs2 => some (.nx, cs2)
    | none => none
  | none => none
section
variable {X : Cx} {e c : Expr} {m : ME} {s : MS} {t : MT} {K : Fg} {D : Ends} {σ : L2.St} {H : Hp} {pos : Pos} {i : Nat}
theorem imp_sset (h : tSt K (sSet i m) D σ H) : tAsg (tS K m) (gName i) D σ H := by
  obtain ⟨G, cs, R, fl, cs', e, k⟩ := h
  simp only [sSet] at e
  split at e
  · rename_i r cs1 h1
    split at e
    · rename_i cs2 h2
      cases e
      refine ⟨G, cs, R, _, _, h1, fun G1 H1 v f R1 ok y => ?_⟩
      obtain ⟨G2, f2, R2⟩ := setR_ok f R1 ok y h2
      exact k _ _ _ f2 R2
    · cases e
  · cases e
theorem ss_set {x : Str} {pos' : Pos} (hN : X.N.Nodup) (hi : X.N[i]? = some x) (hx : Loc X.env.scope x) (he : SE X e m) (hs : swapsWith e (some (.Name x pos')) pos.line X.env = pure false := by rfl) (hf : X.fn x = true ∨ X.env.scope.names.lookup x = some .local := by first | exact .inl rfl | exact .inr rfl | assumption) :
    SS X (.Assign [.Name x pos'] e pos) (sSet i m) := PS.imp (ps_set hN hi hx he hs hf) fun _ _ _ h => imp_sset h
end
end TL
namespace TL
open PySem PySem.Spec L2

/-! ### targets -/
def Off (vs : List Nat) (σ σ' : L2.St) : Prop := σ'.length = σ.length ∧ ∀ i, i ∉ vs → σ'[i]? = σ[i]?
def CellsOff (vs : List Nat) (cs cs' : Cs) : Prop := cs'.length = cs.length ∧ (∀ i, i ∉ vs → cs'[i]? = cs[i]?) ∧ ∀ i, i ∈ vs → ∃ t, cs'[i]? = some (Cell.fz t)
theorem wipe_in {σ : L2.St} {i : Nat} : ∀ {vs : List Nat}, i ∈ vs → i < σ.length → (wipe σ vs)[i]? = some none
  | v :: vs, h, hl => by
    unfold wipe
    by_cases e : v = i
    · subst e
      rw [List.getElem?_set_self (by rw [wipe_length]; exact hl)]
    · rw [List.getElem?_set_ne e]
      exact wipe_in ((List.mem_cons.mp h).resolve_left fun z => e z.symm) hl
theorem Off.wipe {vs ws : List Nat} {σ σ' : L2.St} (o : Off vs σ σ') (h : ∀ i ∈ vs, i ∈ ws) : L2.wipe σ' ws = L2.wipe σ ws := by
  refine List.ext_getElem? fun i => ?_
  by_cases hi : i ∈ ws
  · by_cases hl : i < σ.length
    · rw [wipe_in hi hl, wipe_in hi (by rw [o.1]; exact hl)]
    · rw [List.getElem?_eq_none (by rw [wipe_length, o.1]; omega), List.getElem?_eq_none (by rw [wipe_length]; omega)]
  · rw [wipe_out hi, wipe_out hi]
    exact o.2 i fun z => hi (h i z)
abbrev MG := T → Cs → Option Cs
def gS (K : Fg) (vs : List Nat) (g : MG) : TG := fun v σ H Q => ∃ G cs t, SR K G H cs σ ∧ Rel K G t v ∧ ∃ cs', g t cs = some cs' ∧
  ∀ σ', Off vs σ σ' → CellsOff vs cs cs' → Fr σ G H cs σ' G H cs' → SR K G H cs' σ' → Q σ' H
abbrev SG (X : Cx) (tg : Expr) (vs : List Nat) (g : MG) : Prop := PG X tg (gS X.K vs g)
abbrev MGs := List T → Cs → Option Cs
def gsS (K : Fg) (ws : List Nat) (g : MGs) : TGs := fun vs σ H Q => ∃ G cs ts, SR K G H cs σ ∧ Rels K G ts vs ∧ ∃ cs', g ts cs = some cs' ∧
  ∀ σ', Off ws σ σ' → CellsOff ws cs cs' → Fr σ G H cs σ' G H cs' → SR K G H cs' σ' → Q σ' H
abbrev SGs (X : Cx) (tg : List Expr) (vs : List Nat) (g : MGs) : Prop := PGs X tg (gsS X.K vs g)
theorem PG.imp {X : Cx} {e : Expr} {t t' : TG} (h : PG X e t) (i : ∀ v σ H Q, t' v σ H Q → t v σ H Q) : PG X e t' := ⟨fun pins s σ H v u Q I r q => h.run pins s σ H v u Q I r (i v σ H Q q)⟩
theorem PGs.imp {X : Cx} {e : List Expr} {t t' : TGs} (h : PGs X e t) (i : ∀ v σ H Q, t' v σ H Q → t v σ H Q) : PGs X e t' := ⟨fun pins s σ H v u Q I r q => h.run pins s σ H v u Q I r (i v σ H Q q)⟩
def gN (i : Nat) : MG := fun t cs => setR i (.fz t) cs
def gLNil : MGs := fun ts cs => match ts with
  | [] => some cs
  | _ => none
def gLCons (g : MG) (gs : MGs) : MGs := fun ts cs => match ts with
  | t :: r => match g t cs with
    | some cs1 => gs r cs1
    | none => none
  | [] => none
def gTp (n : Nat) (gs : MGs) : MG := fun t cs => match t with
  | .tuple ts => if ts.length = n then gs ts cs else none
  | _ => none
section
variable {K : Fg} {σ σ1 : L2.St} {G H : Hp} {cs cs1 : Cs} {v : V} {i : Nat} {t : T}
theorem gN_ok (R : SR K G H cs σ) (rel : Rel K G t v) (e : gN i t cs = some cs1) : Off [i] σ (σ.set i (some v)) ∧ CellsOff [i] cs cs1 ∧ Fr σ G H cs (σ.set i (some v)) G H cs1 ∧ SR K G H cs1 (σ.set i (some v)) := by
  simp only [gN, setR] at e
  split at e
  · cases e
  · cases e
  · rename_i c hn hc
    cases e
    have hi : i < cs.length := lt_of_get hc
    have hb : ∀ u, cs[i]? ≠ some (Cell.bo u) := fun u z => by
      rw [hc] at z; cases z
      exact hn u rfl
    obtain ⟨a, b⟩ := put_fz (i := i) (.refl (G := G) (H := H) (σ := σ)) R hb hi rel
    refine ⟨⟨by rw [List.length_set], fun j hj => set_other (by simpa using hj)⟩, ⟨by rw [List.length_set], fun j hj => set_other (by simpa using hj), fun j hj => ?_⟩, a, b⟩
    obtain rfl : j = i := by simpa using hj
    exact ⟨t, set_self hi⟩
end
section
variable {X : Cx} {K : Fg} {pos : Pos} {g : MG} {gs : MGs} {vs ws : List Nat} {e : Expr} {es : List Expr}
theorem sg_name {i : Nat} {x : Str} (hN : X.N.Nodup) (hi : X.N[i]? = some x) (hx : Loc X.env.scope x) (hf : X.fn x = true ∨ X.env.scope.names.lookup x = some .local := by first | exact .inl rfl | exact .inr rfl | assumption) : SG X (.Name x pos) [i] (gN i) :=
  PG.imp (pg_name hN hi hx hf) fun v σ H Q ⟨G, cs, t, R, rel, cs', e, k⟩ => by
    obtain ⟨a, b, c, d⟩ := gN_ok R rel e
    exact k _ a b c d
theorem sgs_nil : SGs X [] [] gLNil := PGs.imp pgs_nil fun v σ H Q ⟨G, cs, ts, R, rel, cs', e, k⟩ => by
  cases rel with
  | nil => cases e; exact ⟨rfl, k σ ⟨rfl, fun _ _ => rfl⟩ ⟨rfl, fun _ _ => rfl, fun i h => by cases h⟩ .refl R⟩
  | cons a b => cases e
theorem sgs_cons (h1 : SG X e vs g) (h2 : SGs X es ws gs) (hs : (assignEach (e :: es) X.env).map (·.2) = assign e X.env :: (assignEach es X.env).map (·.2) := by rfl) : SGs X (e :: es) (vs ++ ws) (gLCons g gs) := PGs.imp (pgs_cons h1 h2 hs) fun v σ H Q ⟨G, cs, ts, R, rel, cs', e, k⟩ => by
  cases rel with
  | nil => cases e
  | cons a b =>
    simp only [gLCons] at e
    split at e
    · rename_i cs1 h1
      refine ⟨_, _, rfl, G, cs, _, R, a, cs1, h1, fun σ1 o1 c1 f1 R1 => ⟨G, cs1, _, R1, b, cs', e, fun σ2 o2 c2 f2 R2 => ?_⟩⟩
      refine k σ2 ⟨o2.1.trans o1.1, fun i hi => ?_⟩ ⟨c2.1.trans c1.1, fun i hi => ?_, fun i hi => ?_⟩ (f1.trans f2) R2
      · rw [List.mem_append, not_or] at hi
        rw [o2.2 i hi.2, o1.2 i hi.1]
      · rw [List.mem_append, not_or] at hi
        rw [c2.2.1 i hi.2, c1.2.1 i hi.1]
      · by_cases h : i ∈ ws
        · exact c2.2.2 i h
        · rw [c2.2.1 i h]
          exact c1.2.2 i ((List.mem_append.mp hi).resolve_right h)
    · cases e
theorem sg_tup {k n : Nat} (hc : X.calm = true) (h : SGs X es vs gs) (hn : (assignEach es X.env).length = n := by rfl) (hst : (assignEach es X.env).findIdx? (·.1) = none := by rfl) : SG X (.Tuple es k pos) vs (gTp n gs) := PG.imp (pg_tup (n := n) hc h hn hst) fun v σ H Q ⟨G, cs, t, R, rel, cs', e, k⟩ => by
  cases rel with
  | tup hs rs =>
    simp only [gTp] at e
    split at e
    · rename_i hl
      exact ⟨_, _, rfl, .inl (.inl (R.le.tp _ _ hs)), by rw [rs.length]; exact hl, G, cs, _, R, rs, cs', e, k⟩
    · cases e
  | _ => cases e
end

/-! ### what is walked -/
structure Walks (K : Fg) (G : Hp) (ts : List T) (J : It) : Prop where
  go : ∀ i G1 H1 t, Le G G1 → Le G1 H1 → ts[i]? = some t → J.go i H1 ∧ ∀ x H2, J.yld i H1 x H2 → ∃ G2, Ext G1 H1 G2 H2 ∧ Rel K G2 t x
  stop : ∀ i G1 H1, Le G G1 → Le G1 H1 → ts.length ≤ i → J.stop i H1
abbrev MI := Cs → Option (List T × Cs)
def iS (K : Fg) (m : MI) : TI := fun σ H R => ∃ G cs, SR K G H cs σ ∧ ∃ ts cs', m cs = some (ts, cs') ∧
  ∀ G' H' J, FrE σ G H cs G' H' cs' → SR K G' H' cs' σ → Walks K G' ts J → R J H'
abbrev SI (X : Cx) (tg e : Expr) (m : MI) : Prop := PI X tg e (iS X.K m)
theorem PI.imp {X : Cx} {tg e : Expr} {t t' : TI} (h : PI X tg e t) (i : ∀ σ H R, t' σ H R → t σ H R) : PI X tg e t' := ⟨fun pins s σ H R I q => h.run pins s σ H R I (i σ H R q)⟩
theorem PI.or {X : Cx} {tg e : Expr} {t t' : TI} (h : PI X tg e t) (h' : PI X tg e t') : PI X tg e (fun σ H R => t σ H R ∨ t' σ H R) :=
  ⟨fun pins s σ H R I q => q.elim (h.run pins s σ H R I) (h'.run pins s σ H R I)⟩
/-- over a list or a tuple -/
def iSeq (m : ME) : MI := fun cs => match m cs with
  | some (r, cs1) => match frz r cs1 with
    | some (.list ts, cs2) => some (ts, cs2)
    | some (.tuple ts, cs2) => some (ts, cs2)
    | _ => none
  | none => none
theorem walks_list {K : Fg} {G : Hp} {a : Addr} {vs : List V} {ts : List T} (h : SqL K G a vs) (r : Rels K G ts vs) (inj : ∀ H1 xs, Le G H1 → SqL K H1 a xs → xs = vs) : Walks K G ts (Itl K a) := by
  refine ⟨fun i G1 H1 t l1 l2 e => ?_, fun i G1 H1 l1 l2 e => ⟨vs, (l1.trans l2).sql h, by rw [r.length]; exact e⟩⟩
  obtain ⟨v, ev, rv⟩ := r.get e
  have s1 := (l1.trans l2).sql h
  refine ⟨⟨vs, v, s1, ev⟩, fun x H2 ⟨e2, y⟩ => ?_⟩
  subst e2
  have := y vs s1
  rw [ev] at this; cases this
  exact ⟨G1, .refl l2, rv.mono l1⟩
section
variable {X : Cx} {tg e : Expr} {m : ME} {K : Fg} {σ : L2.St} {H : Hp}
theorem imp_iseq {R : It → Hp → Prop} (h : iS K (iSeq m) σ H R) : iList K (tS K m) σ H R ∨ iTup K (tS K m) σ H R := by
  obtain ⟨G, cs, SRr, ts, cs', e, k⟩ := h
  simp only [iSeq] at e
  split at e
  · rename_i r cs1 h1
    split at e
    · rename_i us cs2 h2
      cases e
      refine .inl ⟨G, cs, SRr, r, cs1, h1, fun G1 H1 v f R1 ok y => ?_⟩
      obtain ⟨G2, f2, R2, rel⟩ := frz_ok f R1 ok y h2
      cases rel with
      | lst hr rs =>
        have hs : SqL K G2 _ _ := .inl hr
        refine ⟨_, rfl, ⟨_, R2.le.sql hs⟩, k G2 H1 _ f2 R2 ?_⟩
        refine ⟨fun i G3 H3 t l1 l2 e => ?_, fun i G3 H3 l1 l2 e => ⟨_, (l1.trans l2).sql hs, by rw [rs.length]; exact e⟩⟩
        obtain ⟨v, ev, rv⟩ := rs.get e
        have s1 := (l1.trans l2).sql hs
        refine ⟨⟨_, v, s1, ev⟩, fun x H2 ⟨e2, y⟩ => ?_⟩
        subst e2
        have := y _ s1
        rw [ev] at this; cases this
        exact ⟨G3, .refl l2, rv.mono l1⟩
    · rename_i us cs2 h2
      cases e
      refine .inr ⟨G, cs, SRr, r, cs1, h1, fun G1 H1 v f R1 ok y => ?_⟩
      obtain ⟨G2, f2, R2, rel⟩ := frz_ok f R1 ok y h2
      cases rel with
      | tup hs rs =>
        have ht : SqT K G2 _ _ := .inl (.inl hs)
        refine ⟨_, rfl, ⟨_, R2.le.sqt ht⟩, k G2 H1 _ f2 R2 ?_⟩
        refine ⟨fun i G3 H3 t l1 l2 e => ?_, fun i G3 H3 l1 l2 e => ⟨_, (l1.trans l2).sqt ht, by rw [rs.length]; exact e⟩⟩
        obtain ⟨v, ev, rv⟩ := rs.get e
        have s1 := (l1.trans l2).sqt ht
        refine ⟨⟨_, v, s1, ev⟩, fun x H2 ⟨e2, y⟩ => ?_⟩
        subst e2
        have := y _ s1
        rw [ev] at this; cases this
        exact ⟨G3, .refl l2, rv.mono l1⟩
    · cases e
  · cases e
theorem si_seq (h : SE X e m) : SI X tg e (iSeq m) := PI.imp (TL.PI.or (pi_list h) (pi_tup h)) fun _ _ _ q => imp_iseq q
/-- range -/
def rngT (lo : Int) (n : Nat) : List T := (List.range n).map fun (k : Nat) => .int (lo + k)
theorem walks_rng {G : Hp} {lo : Int} {n : Nat} : Walks K G (rngT lo n) (Itr lo n) := by
  refine ⟨fun i G1 H1 t l1 l2 e => ?_, fun i G1 H1 l1 l2 e => ?_⟩
  · have hi : i < n := by
      have := lt_of_get e
      simpa [rngT] using this
    refine ⟨hi, fun x H2 ⟨e1, e2⟩ => ?_⟩
    subst e1; subst e2
    have et : t = .int (lo + i) := by
      rw [rngT, List.getElem?_map, List.getElem?_range hi] at e
      exact (Option.some.inj e).symm
    subst et
    exact ⟨G1, .refl l2, .int _⟩
  · show n ≤ i
    simpa [rngT] using e
def iRange (ms : MA) : MI := fun cs => match ms cs with
  | some (rs, cs1) => match rs with
    | [.fz (.int j)] => if -(2 ^ 62) ≤ j ∧ j < 2 ^ 62 then some (rngT 0 j.toNat, cs1) else none
    | [.fz (.int i), .fz (.int j)] => if -(2 ^ 62) ≤ i ∧ i < 2 ^ 62 ∧ -(2 ^ 62) ≤ j ∧ j < 2 ^ 62 then some (rngT i (j - i).toNat, cs1) else none
    | _ => none
  | none => none
theorem imp_rng1 {ms : MA} {R : It → Hp → Prop} (h : iS K (iRange ms) σ H R) : iRng1 (tA K ms) σ H R ∨ iRng2 (tA K ms) σ H R := by
  obtain ⟨G, cs, SRr, ts, cs', e, k⟩ := h
  simp only [iRange] at e
  split at e
  · rename_i rs cs1 h1
    split at e
    · rename_i j
      split at e
      · rename_i hj
        cases e
        refine .inl ⟨G, cs, SRr, _, _, h1, fun G1 H1 vs f R1 ok => ?_⟩
        cases ok with
        | cons a b =>
          cases b
          cases a
          exact ⟨j, rfl, hj.1, hj.2, k G1 H1 _ f R1 walks_rng⟩
      · cases e
    · rename_i i j
      split at e
      · rename_i hj
        cases e
        refine .inr ⟨G, cs, SRr, _, _, h1, fun G1 H1 vs f R1 ok => ?_⟩
        cases ok with
        | cons a b =>
          cases b with
          | cons b c =>
            cases c
            cases a
            cases b
            exact ⟨i, j, rfl, hj, k G1 H1 _ f R1 walks_rng⟩
      · cases e
    · cases e
  · cases e
end
section
variable {X : Cx} {tg a b : Expr} {ms : MA} {p pos : Pos}
theorem si_range1 (hg : Gl X "range") (hm : X.mg "range" = none) (ha : SA X [a] ms) (hs : starEach [a] X.env = [(false, eval a X.env)] := by rfl)
    (h0 : ∀ cs cs' r s, ms cs ≠ some ([r, s], cs') := by intro _ _ _ _ h; simp only [mCons, mNil] at h; (repeat' split at h) <;> cases h) : SI X tg (.Call (.Name "range" p) [a] [] pos) (iRange ms) :=
  PI.imp (pi_range1 hg hm ha hs) fun σ H R q => by
    rcases imp_rng1 q with q | q
    · exact q
    · obtain ⟨G, cs, SRr, rs, cs', e, k⟩ := q
      refine ⟨G, cs, SRr, rs, cs', e, fun G1 H1 vs f R1 ok => ?_⟩
      obtain ⟨i, j, e1, q⟩ := k G1 H1 vs f R1 ok
      subst e1
      cases ok with
      | cons a b =>
        cases b with
        | cons b c =>
          cases c
          exact absurd e (h0 _ _ _ _)
theorem si_range2 (hg : Gl X "range") (hm : X.mg "range" = none) (ha : SA X [a, b] ms) (hs : starEach [a, b] X.env = [(false, eval a X.env), (false, eval b X.env)] := by rfl) (hs2 : starEach [b] X.env = [(false, eval b X.env)] := by rfl)
    (h0 : ∀ cs cs' r, ms cs ≠ some ([r], cs') := by intro _ _ _ h; simp only [mCons, mNil] at h; (repeat' split at h) <;> cases h) : SI X tg (.Call (.Name "range" p) [a, b] [] pos) (iRange ms) :=
  PI.imp (pi_range2 hg hm ha hs hs2) fun σ H R q => by
    rcases imp_rng1 q with q | q
    · obtain ⟨G, cs, SRr, rs, cs', e, k⟩ := q
      refine ⟨G, cs, SRr, rs, cs', e, fun G1 H1 vs f R1 ok => ?_⟩
      obtain ⟨j, e1, q⟩ := k G1 H1 vs f R1 ok
      subst e1
      cases ok with
      | cons a b =>
        cases b
        exact absurd e (h0 _ _ _)
    · exact q
end

/-! ### loops -/
def sForL (g : MG) (b : MS) : List T → MS
  | [], cs => some (.nx, cs)
  | t :: ts, cs => match g t cs with
    | none => none
    | some cs1 => match b cs1 with
      | some (.nx, cs2) => sForL g b ts cs2
      | some (.ct, cs2) => sForL g b ts cs2
      | some (.bk, cs2) => some (.nx, cs2)
      | some (.rt o, cs2) => some (.rt o, cs2)
      | none => none
def sFor (mi : MI) (g : MG) (b : MS) : MS := fun cs => match mi cs with
  | some (ts, cs1) => sForL g b ts cs1
  | none => none
def sWhile : Nat → MT → MS → MS
  | 0, _, _, _ => none
  | n + 1, c, b, cs => match c cs with
    | some (true, cs1) => match b cs1 with
      | some (.nx, cs2) => sWhile n c b cs2
      | some (.ct, cs2) => sWhile n c b cs2
      | some (.bk, cs2) => some (.nx, cs2)
      | some (.rt o, cs2) => some (.rt o, cs2)
      | none => none
    | some (false, cs1) => some (.nx, cs1)
    | none => none
section
variable {X : Cx} {tg iter c : Expr} {body : List Stmt} {mi : MI} {g : MG} {b : MS} {t : MT} {vs : List Nat} {K : Fg} {D : Ends} {σ : L2.St} {H : Hp} {pos : Pos}
theorem imp_for (h : tSt K (sFor mi g b) D σ H) : tFor (iS K mi) (gS K vs g) (tSt K b) D σ H := by
  obtain ⟨G, cs, R, fl, csf, e, k⟩ := h
  simp only [sFor] at e
  split at e
  · rename_i ts cs1 h1
    refine ⟨G, cs, R, ts, cs1, h1, fun G1 H1 J f1 R1 W => ?_⟩
    refine ⟨fun i m σ' H' => m = ts.length - i ∧ i ≤ ts.length ∧ ∃ G' cs', Fr σ G H cs σ' G' H' cs' ∧ SR K G' H' cs' σ' ∧ Le G1 G' ∧ sForL g b (ts.drop i) cs' = some (fl, csf),
      ⟨ts.length, rfl, Nat.zero_le _, G1, cs1, f1.toFr, R1, .refl _, e⟩, ?_⟩
    rintro i m σ' H' ⟨rfl, hi, G', cs', f', R', l', e'⟩
    by_cases hlt : i < ts.length
    · have ht : ts[i]? = some ts[i] := List.getElem?_eq_getElem hlt
      rw [List.drop_eq_getElem_cons hlt] at e'
      obtain ⟨go, yl⟩ := W.go i G' H' _ l' R'.le ht
      simp only [sForL] at e'
      split at e'
      · cases e'
      · rename_i c1 hg
        refine .inr ⟨go, fun σ'' H'' => ∃ G'' cs'', Fr σ G H cs σ'' G'' H'' cs'' ∧ SR K G'' H'' cs'' σ'' ∧ Le G1 G'' ∧ sForL g b (ts.drop (i + 1)) cs'' = some (fl, csf),
          fun σ'' H'' n => ⟨_, by omega, rfl, hlt, n⟩, fun x H2 y => ?_⟩
        obtain ⟨G2, x2, rel⟩ := yl x H2 y
        refine ⟨G2, cs', _, R'.ext x2, rel, c1, hg, fun σ2 _ _ f2 R2 => ?_⟩
        have fa : Fr σ G H cs σ2 G2 H2 c1 := (f'.trans (FrE.ext x2).toFr).trans f2
        have la : Le G1 G2 := l'.trans x2.g
        split at e'
        · rename_i c2 hb
          exact ⟨G2, c1, R2, .nx, c2, hb, fun σ3 G3 H3 f3 R3 => ⟨G3, c2, fa.trans f3, R3, la.trans f3.g, e'⟩⟩
        · rename_i c2 hb
          exact ⟨G2, c1, R2, .ct, c2, hb, fun σ3 G3 H3 f3 R3 => ⟨G3, c2, fa.trans f3, R3, la.trans f3.g, e'⟩⟩
        · rename_i c2 hb
          cases e'
          exact ⟨G2, c1, R2, .bk, _, hb, fun σ3 G3 H3 f3 R3 => k σ3 G3 H3 (fa.trans f3) R3⟩
        · rename_i o c2 hb
          cases e'
          exact ⟨G2, c1, R2, .rt o, _, hb, k.rest fa⟩
        · cases e'
    · have ei : i = ts.length := by omega
      subst ei
      rw [List.drop_length] at e'
      cases e'
      exact .inl ⟨W.stop _ G' H' l' R'.le (Nat.le_refl _), k σ' G' H' f' R'⟩
  · cases e
theorem ss_for (hp : PassesOwn (model X.prog X.w) X.A X.env X.xe) (hc : X.calm = true) (hi : SI X tg iter mi) (hg : SG X tg vs g) (hb : SSs X body b)
    (hs : ∀ x, foldedSetIterable iter X.env x = pure x := by intro _; rfl) : SS X (.For tg iter body [] pos) (sFor mi g b) := PS.imp (ps_for hp hc hi hg hb hs) fun _ _ _ h => imp_for h
theorem imp_while {n : Nat} (h : tSt K (sWhile n t b) D σ H) : tWhile (tT K t) (tSt K b) D σ H := by
  obtain ⟨G, cs, R, fl, csf, e, k⟩ := h
  refine ⟨fun m σ' H' => ∃ G' cs', Fr σ G H cs σ' G' H' cs' ∧ SR K G' H' cs' σ' ∧ sWhile m t b cs' = some (fl, csf), ⟨n, G, cs, .refl, R, e⟩, ?_⟩
  rintro m σ' H' ⟨G', cs', f', R', e'⟩
  cases m with
  | zero => cases e'
  | succ m =>
    simp only [sWhile] at e'
    split at e'
    · rename_i c1 hc
      refine ⟨G', cs', R', true, c1, hc, fun G2 H2 f2 R2 => ?_⟩
      refine iteT ?_
      have fa := f'.trans f2.toFr
      refine ⟨fun σ'' H'' => ∃ G'' cs'', Fr σ G H cs σ'' G'' H'' cs'' ∧ SR K G'' H'' cs'' σ'' ∧ sWhile m t b cs'' = some (fl, csf), fun σ'' H'' q => ⟨m, Nat.lt_succ_self m, q⟩, ?_⟩
      split at e'
      · rename_i c2 hb
        exact ⟨G2, c1, R2, .nx, c2, hb, fun σ3 G3 H3 f3 R3 => ⟨G3, c2, fa.trans f3, R3, e'⟩⟩
      · rename_i c2 hb
        exact ⟨G2, c1, R2, .ct, c2, hb, fun σ3 G3 H3 f3 R3 => ⟨G3, c2, fa.trans f3, R3, e'⟩⟩
      · rename_i c2 hb
        cases e'
        exact ⟨G2, c1, R2, .bk, _, hb, fun σ3 G3 H3 f3 R3 => k σ3 G3 H3 (fa.trans f3) R3⟩
      · rename_i o c2 hb
        cases e'
        exact ⟨G2, c1, R2, .rt o, _, hb, k.rest fa⟩
      · cases e'
    · rename_i c1 hc
      cases e'
      refine ⟨G', cs', R', false, _, hc, fun G2 H2 f2 R2 => ?_⟩
      refine iteF ?_
      exact k _ G2 H2 (f'.trans f2.toFr) R2
    · cases e'
theorem ss_while {n : Nat} (hp : PassesOwn (model X.prog X.w) X.A X.env X.xe) (hc : ST X c t) (hb : SSs X body b) : SS X (.While c body [] pos) (sWhile n t b) := PS.imp (ps_while hp hc hb) fun _ _ _ h => imp_while h
end
end TL
namespace TL
open PySem PySem.Spec L2

/-! ### comprehensions -/
def wipeC (cs : Cs) : List Nat → Cs
  | [] => cs
  | v :: vs => (wipeC cs vs).set v .un
def restC (cs : Cs) : List Nat → Cs → Cs
  | [], c => c
  | v :: vs, c => match cs[v]? with
    | some x => (restC cs vs c).set v x
    | none => restC cs vs c
theorem wipeC_length (cs : Cs) : ∀ vs : List Nat, (wipeC cs vs).length = cs.length
  | [] => rfl
  | v :: vs => by unfold wipeC; rw [List.length_set, wipeC_length cs vs]
theorem wipeC_in {cs : Cs} {i : Nat} : ∀ {vs : List Nat}, i ∈ vs → i < cs.length → (wipeC cs vs)[i]? = some Cell.un
  | v :: vs, h, hl => by
    unfold wipeC
    by_cases e : v = i
    · subst e
      rw [List.getElem?_set_self (by rw [wipeC_length]; exact hl)]
    · rw [List.getElem?_set_ne e]
      exact wipeC_in ((List.mem_cons.mp h).resolve_left fun z => e z.symm) hl
theorem wipeC_out {cs : Cs} {i : Nat} : ∀ {vs : List Nat}, i ∉ vs → (wipeC cs vs)[i]? = cs[i]?
  | [], _ => rfl
  | v :: vs, h => by
    rw [List.mem_cons, not_or] at h
    unfold wipeC
    rw [List.getElem?_set_ne (fun e => h.1 e.symm), wipeC_out h.2]
theorem restC_length (cs : Cs) : ∀ (vs : List Nat) (c : Cs), (restC cs vs c).length = c.length
  | [], _ => rfl
  | v :: vs, c => by unfold restC; split <;> simp [restC_length cs vs c]
theorem restC_out {cs : Cs} {i : Nat} : ∀ {vs : List Nat} {c : Cs}, i ∉ vs → (restC cs vs c)[i]? = c[i]?
  | [], _, _ => rfl
  | v :: vs, c, h => by
    rw [List.mem_cons, not_or] at h
    unfold restC
    split
    · rw [List.getElem?_set_ne (fun e => h.1 e.symm), restC_out h.2]
    · exact restC_out h.2
theorem restC_in {cs : Cs} {i : Nat} : ∀ {vs : List Nat} {c : Cs}, c.length = cs.length → i ∈ vs → (restC cs vs c)[i]? = cs[i]?
  | v :: vs, c, hl, h => by
    unfold restC
    by_cases e : v = i
    · subst e
      split
      · rename_i x hx
        rw [List.getElem?_set_self (by rw [restC_length, hl]; exact lt_of_get hx), hx]
      · rename_i hx
        rw [hx]
        exact List.getElem?_eq_none (by rw [restC_length, hl]; exact List.getElem?_eq_none_iff.mp hx)
    · have h2 : i ∈ vs := (List.mem_cons.mp h).resolve_left fun z => e z.symm
      split
      · rw [List.getElem?_set_ne e]
        exact restC_in hl h2
      · exact restC_in hl h2
/-- the turns of a comprehension -/
def mLcL (own : List Nat) (g : MG) (tt : MT) (te : ME) : List T → Cs → Option (List T × Cs)
  | [], cs => some ([], cs)
  | t :: ts, cs => match g t cs with
    | none => none
    | some cs1 => match tt cs1 with
      | some (true, cs2) => match te cs2 with
        | some (r, cs3) => match frz r cs3 with
          | some (y, cs4) => match mLcL own g tt te ts (wipeC cs4 own) with
            | some (ys, cs5) => some (y :: ys, cs5)
            | none => none
          | none => none
        | none => none
      | some (false, cs2) => mLcL own g tt te ts (wipeC cs2 own)
      | none => none
def mLc (own : List Nat) (mi : MI) (g : MG) (tt : MT) (te : ME) : ME := fun cs => match mi cs with
  | some (ts, cs1) => if ts.length ≤ sizeLine then match mLcL own g tt te ts (wipeC cs1 own) with
      | some (ys, cs2) => some (.nw (.list ys), restC cs1 own cs2)
      | none => none
    else none
  | none => none
def mtYes : MT := fun cs => some (true, cs)

section
variable {K : Fg} {σ σ2 : L2.St} {G H G1 H1 G2 H2 : Hp} {cs cs1 c1 c2 : Cs} {own : List Nat}
theorem ownw {p : Addr} (h : OwnAt (wipeC cs own) (wipe σ own) p) : ∃ i t, i ∉ own ∧ OwC cs i t ∧ σ[i]? = some (some (.ref p)) := by
  obtain ⟨i, t, a, b⟩ := h
  obtain ⟨b1, b2⟩ := wipe_some b
  refine ⟨i, t, b2, ?_, b1⟩
  rcases a with a | a <;> rw [wipeC_out b2] at a
  · exact .inl a
  · exact .inr a
theorem SR.wipe (R : SR K G H cs σ) : SR K G H (wipeC cs own) (L2.wipe σ own) := by
  have oc : ∀ {i : Nat} {t : T}, OwC (wipeC cs own) i t → i ∉ own ∧ OwC cs i t := fun {i t} a => by
    have hi : i ∉ own := fun hi => by
      have hl : i < cs.length := by
        rcases a with a | a <;> (have := lt_of_get a; rw [wipeC_length] at this; exact this)
      rcases a with a | a <;> rw [wipeC_in hi hl] at a <;> cases a
    refine ⟨hi, ?_⟩
    rcases a with a | a <;> rw [wipeC_out hi] at a
    · exact .inl a
    · exact .inr a
  refine ⟨R.le, by rw [wipeC_length, wipe_length]; exact R.len, fun i t e => ?_, fun i t e => ?_, fun i j t u p a b ea eb => ?_⟩
  · have hi : i ∉ own := fun hi => by
      have hl : i < cs.length := by have := lt_of_get e; rw [wipeC_length] at this; exact this
      rw [wipeC_in hi hl] at e; cases e
    rw [wipeC_out hi] at e
    rw [wipe_out hi]
    exact R.fz i t e
  · obtain ⟨hi, e⟩ := oc e
    rw [wipe_out hi]
    exact R.ow i t e
  · obtain ⟨hi, a⟩ := oc a
    obtain ⟨hj, b⟩ := oc b
    rw [wipe_out hi] at ea
    rw [wipe_out hj] at eb
    exact R.apart i j t u p a b ea eb

/-- a turn: from the wiped state back to it -/
theorem turn_fr (hw : ∀ i ∈ own, ∀ c, cs[i]? = some c → c = .un) (e : L2.wipe σ2 own = L2.wipe σ own) (c : ∀ i, i ∉ own → c1[i]? = cs[i]?) (c' : ∀ i ∈ own, ∀ t, ¬ OwC c1 i t)
    (f : FrE σ2 G H c1 G2 H2 c2) (hl : c2.length = cs.length) : FrE (L2.wipe σ own) G H cs G2 H2 (wipeC c2 own) := by
  have so : ∀ {i : Nat}, i ∉ own → σ2[i]? = (L2.wipe σ own)[i]? := fun {i} hi => by rw [← e, wipe_out hi]
  have so' : ∀ {i : Nat} {v : V}, (L2.wipe σ own)[i]? = some (some v) → i ∉ own := fun {i v} h => (wipe_some h).2
  have oc : ∀ {p : Addr}, OwnAt c1 σ2 p → OwnAt cs (L2.wipe σ own) p := fun {p} ⟨i, t, a, b⟩ => by
    have hi : i ∉ own := fun hi => c' i hi t a
    refine ⟨i, t, ?_, by rw [← so hi]; exact b⟩
    rcases a with a | a <;> rw [c i hi] at a
    · exact .inl a
    · exact .inr a
  have ow : ∀ {i : Nat} {t : T}, OwC (wipeC c2 own) i t → i ∉ own ∧ OwC c2 i t := fun {i t} a => by
    have hi : i ∉ own := fun hi => by
      have hl : i < c2.length := by
        rcases a with a | a <;> (have := lt_of_get a; rw [wipeC_length] at this; exact this)
      rcases a with a | a <;> rw [wipeC_in hi hl] at a <;> cases a
    refine ⟨hi, ?_⟩
    rcases a with a | a <;> rw [wipeC_out hi] at a
    · exact .inl a
    · exact .inr a
  refine ⟨⟨f.g, fun p o a b => f.keep p o a fun z => b (oc z), fun p a b d => f.gfr p a b fun z => d (oc z), fun p ⟨i, t, a, b⟩ => ?_, f.hmo, fun i t a => ?_, fun i t a => ?_⟩, fun i t a => ?_, fun i t a => ?_, fun i t a => ?_⟩
  · obtain ⟨hi, a⟩ := ow a
    rcases f.own p ⟨i, t, a, by rw [so hi]; exact b⟩ with h | h
    · exact .inl (oc h)
    · exact .inr h
  · have hi : i ∉ own := fun hi => by cases hw i hi _ a
    obtain ⟨t', b, d⟩ := f.bo i t (by rw [c i hi]; exact a)
    exact ⟨t', by rw [wipeC_out hi]; exact b, rfl⟩
  · have hi : i ∉ own := (ow (.inr a)).1
    rw [wipeC_out hi] at a
    obtain ⟨t', b⟩ := f.bo' i t a
    exact ⟨t', by rw [← c i hi]; exact b⟩
  · have hi : i ∉ own := fun hi => by cases hw i hi _ a
    rw [wipeC_out hi]
    exact f.fzk i t (by rw [c i hi]; exact a)
  · have hi : i ∉ own := fun hi => by rcases a with a | a <;> cases hw i hi _ a
    rw [wipeC_out hi]
    have a1 : OwC c1 i t := by
      rcases a with a | a
      · exact .inl (by rw [c i hi]; exact a)
      · exact .inr (by rw [c i hi]; exact a)
    rcases f.live i t a1 with ⟨t', h⟩ | h
    · refine .inl ⟨t', ?_⟩
      rcases h with h | h
      · exact .inl (by rw [wipeC_out hi]; exact h)
      · exact .inr (by rw [wipeC_out hi]; exact h)
    · exact .inr h
  · obtain ⟨hi, a⟩ := ow a
    obtain ⟨t', b⟩ := f.back i t a
    refine ⟨t', ?_⟩
    rcases b with b | b <;> rw [c i hi] at b
    · exact .inl b
    · exact .inr b
/-- the block's end -/
theorem block_end (R : SR K G H cs σ) (f : FrE (L2.wipe σ own) G H (wipeC cs own) G2 H2 c2) (R2 : SR K G2 H2 c2 (L2.wipe σ own)) :
    FrE σ G H cs G2 H2 (restC cs own c2) ∧ SR K G2 H2 (restC cs own c2) σ := by
  have hl2 : c2.length = cs.length := by rw [R2.len, wipe_length, R.len]
  have up : ∀ {p : Addr}, OwnAt (wipeC cs own) (L2.wipe σ own) p → OwnAt cs σ p := fun {p} h => by
    obtain ⟨i, t, _, a, b⟩ := ownw h
    exact ⟨i, t, a, b⟩
  have get : ∀ {i : Nat} {x : Cell}, (restC cs own c2)[i]? = some x → (i ∈ own ∧ cs[i]? = some x) ∨ (i ∉ own ∧ c2[i]? = some x) := fun {i x} h => by
    by_cases hi : i ∈ own
    · rw [restC_in hl2 hi] at h; exact .inl ⟨hi, h⟩
    · rw [restC_out hi] at h; exact .inr ⟨hi, h⟩
  have oc : ∀ {i : Nat} {t : T}, OwC (restC cs own c2) i t → (i ∈ own ∧ OwC cs i t) ∨ (i ∉ own ∧ OwC c2 i t) := fun {i t} h => by
    rcases h with h | h
    · rcases get h with ⟨a, b⟩ | ⟨a, b⟩
      · exact .inl ⟨a, .inl b⟩
      · exact .inr ⟨a, .inl b⟩
    · rcases get h with ⟨a, b⟩ | ⟨a, b⟩
      · exact .inl ⟨a, .inr b⟩
      · exact .inr ⟨a, .inr b⟩
  have wo : ∀ {i : Nat}, i ∉ own → (L2.wipe σ own)[i]? = σ[i]? := fun {i} hi => wipe_out hi
  have wc : ∀ {i : Nat}, i ∉ own → (wipeC cs own)[i]? = cs[i]? := fun {i} hi => wipeC_out hi
  -- an own one's address is nobody's within the block
  have lone : ∀ {i : Nat} {t : T} {p : Addr}, i ∈ own → OwC cs i t → σ[i]? = some (some (.ref p)) → ¬ OwnAt (wipeC cs own) (L2.wipe σ own) p := fun {i t p} hi a b h => by
    obtain ⟨j, u, hj, c, d⟩ := ownw h
    exact hj (R.apart i j t u p a c b d ▸ hi)
  refine ⟨⟨⟨f.g, fun p o a b => f.keep p o a fun z => b (up z), fun p a b d => f.gfr p a b fun z => d (up z), fun p ⟨i, t, a, b⟩ => ?_, f.hmo, fun i t a => ?_, fun i t a => ?_⟩, fun i t a => ?_, fun i t a => ?_, fun i t a => ?_⟩,
    ⟨R2.le, by rw [restC_length, hl2]; exact R.len, fun i t a => ?_, fun i t a => ?_, fun i j t u p a b ea eb => ?_⟩⟩
  · rcases oc a with ⟨hi, a⟩ | ⟨hi, a⟩
    · exact .inl ⟨i, t, a, b⟩
    · rcases f.own p ⟨i, t, a, by rw [wo hi]; exact b⟩ with h | h
      · exact .inl (up h)
      · exact .inr h
  · by_cases hi : i ∈ own
    · exact ⟨t, by rw [restC_in hl2 hi]; exact a, rfl⟩
    · obtain ⟨t', b, _⟩ := f.bo i t (by rw [wc hi]; exact a)
      exact ⟨t', by rw [restC_out hi]; exact b, rfl⟩
  · rcases get a with ⟨hi, a⟩ | ⟨hi, a⟩
    · exact ⟨t, a⟩
    · obtain ⟨t', b⟩ := f.bo' i t a
      exact ⟨t', by rw [← wc hi]; exact b⟩
  · by_cases hi : i ∈ own
    · rw [restC_in hl2 hi]; exact a
    · rw [restC_out hi]
      exact f.fzk i t (by rw [wc hi]; exact a)
  · by_cases hi : i ∈ own
    · refine .inl ⟨t, ?_⟩
      rcases a with a | a
      · exact .inl (by rw [restC_in hl2 hi]; exact a)
      · exact .inr (by rw [restC_in hl2 hi]; exact a)
    · rw [restC_out hi]
      have a1 : OwC (wipeC cs own) i t := by
        rcases a with a | a
        · exact .inl (by rw [wc hi]; exact a)
        · exact .inr (by rw [wc hi]; exact a)
      rcases f.live i t a1 with ⟨t', h⟩ | h
      · refine .inl ⟨t', ?_⟩
        rcases h with h | h
        · exact .inl (by rw [restC_out hi]; exact h)
        · exact .inr (by rw [restC_out hi]; exact h)
      · exact .inr h
  · rcases oc a with ⟨hi, a⟩ | ⟨hi, a⟩
    · exact ⟨t, a⟩
    · obtain ⟨t', b⟩ := f.back i t a
      refine ⟨t', ?_⟩
      rcases b with b | b <;> rw [wc hi] at b
      · exact .inl b
      · exact .inr b
  · rcases get a with ⟨hi, a⟩ | ⟨hi, a⟩
    · obtain ⟨v, x, y⟩ := R.fz i t a
      exact ⟨v, x, y.mono f.g⟩
    · rw [← wo hi]
      exact R2.fz i t a
  · rcases oc a with ⟨hi, a⟩ | ⟨hi, a⟩
    · obtain ⟨p, x, y, z⟩ := R.ow i t a
      have no := lone hi a x
      obtain ⟨ob, eo, _⟩ := z.some
      exact ⟨p, x, f.gfr p z.noT y no, z.mono f.g (by rw [eo]; exact f.keep p ob eo no)⟩
    · rw [← wo hi]
      exact R2.ow i t a
  · have key : ∀ {i j : Nat} {t u : T}, i ∈ own → OwC cs i t → j ∉ own → OwC c2 j u → σ[i]? = some (some (.ref p)) → σ[j]? = some (some (.ref p)) → False := fun {i j t u} hi a hj b ea eb => by
      rcases f.own p ⟨j, u, b, by rw [wo hj]; exact eb⟩ with h | h
      · exact lone hi a ea h
      · obtain ⟨q, x, y, z⟩ := R.ow i t a
        rw [ea] at x; cases x
        exact z.ne h
    rcases oc a with ⟨hi, a⟩ | ⟨hi, a⟩ <;> rcases oc b with ⟨hj, b⟩ | ⟨hj, b⟩
    · exact R.apart i j t u p a b ea eb
    · exact (key hi a hj b ea eb).elim
    · exact (key hj b hi a eb ea).elim
    · rw [← wo hi] at ea
      rw [← wo hj] at eb
      exact R2.apart i j t u p a b ea eb
end
section
variable {X : Cx} {K : Fg} {σ : L2.St} {H : Hp} {Q : VK} {own vs : List Nat} {mi : MI} {g : MG} {tt : MT} {te : ME}
theorem imp_lc (hv : ∀ i ∈ vs, i ∈ own) (h : tS K (mLc own mi g tt te) σ H Q) : tLc (iS K mi) (gS K vs g) (tT K tt) (tS K te) own σ H Q := by
  obtain ⟨G, cs, R, r, csf, e, k⟩ := h
  simp only [mLc] at e
  split at e
  · rename_i ts cs1 h1
    split at e
    · rename_i hlen
      split at e
      · rename_i tot cs2 h2
        cases e
        refine ⟨G, cs, R, ts, cs1, h1, fun G1 H1 J f1 R1 W D nD => ?_⟩
        have base : SR K G1 (upd H1 D (.lst [])) (wipeC cs1 own) (wipe σ own) := (R1.wipe).ext (.own R1.le nD)
        have gD : G1 D = none := R1.le.dom D nD
        refine ⟨fun i m H' => m = ts.length - i ∧ i ≤ ts.length ∧ ∃ G' cs' acc ys, FrE (wipe σ own) G1 H1 (wipeC cs1 own) G' H' cs' ∧ SR K G' H' cs' (wipe σ own) ∧ (∀ i ∈ own, ∀ c, cs'[i]? = some c → c = .un) ∧
            G' D = none ∧ ¬ OwnAt cs' (wipe σ own) D ∧ Own K G' H' (.list acc) D ∧ acc.length ≤ i ∧ mLcL own g tt te (ts.drop i) cs' = some (ys, cs2) ∧ acc ++ ys = tot,
          ⟨ts.length, rfl, Nat.zero_le _, G1, _, [], tot, .ext (.own R1.le nD), base, fun i hi c hc => ?_, gD, fun z => (R1.wipe.own_ne z).1 nD, .lst upd_same .nil, Nat.le_refl _, h2, rfl⟩, ?_⟩
        · have hl : i < cs1.length := by have := lt_of_get hc; rw [wipeC_length] at this; exact this
          rw [wipeC_in hi hl] at hc
          exact (Option.some.inj hc).symm
        rintro i m H' ⟨rfl, hi, G', cs', acc, ys, f', R', un', gD', nO', oD', la', e', et⟩
        by_cases hlt : i < ts.length
        · have ht : ts[i]? = some ts[i] := List.getElem?_eq_getElem hlt
          rw [List.drop_eq_getElem_cons hlt] at e'
          obtain ⟨go, yl⟩ := W.go i G' H' _ f'.g R'.le ht
          simp only [mLcL] at e'
          split at e'
          · cases e'
          · rename_i c1 hg
            refine .inr ⟨go, fun H'' => ∃ G'' cs'' acc' ys', FrE (wipe σ own) G1 H1 (wipeC cs1 own) G'' H'' cs'' ∧ SR K G'' H'' cs'' (wipe σ own) ∧ (∀ i ∈ own, ∀ c, cs''[i]? = some c → c = .un) ∧
                G'' D = none ∧ ¬ OwnAt cs'' (wipe σ own) D ∧ Own K G'' H'' (.list acc') D ∧ acc'.length ≤ i + 1 ∧ mLcL own g tt te (ts.drop (i + 1)) cs'' = some (ys', cs2) ∧ acc' ++ ys' = tot,
              fun H'' n => ⟨_, by omega, rfl, hlt, n⟩, fun x H2 y => ?_⟩
            obtain ⟨G2, x2, rel⟩ := yl x H2 y
            have R2 := R'.ext x2
            refine ⟨G2, cs', _, R2, rel, c1, hg, fun σ2 off coff f2 RR => ?_⟩
            have ew : wipe σ2 own = wipe σ own := by
              rw [off.wipe hv]
              refine List.ext_getElem? fun j => ?_
              by_cases hj : j ∈ own
              · by_cases hl : j < σ.length
                · rw [wipe_in hj (by rw [wipe_length]; exact hl), wipe_in hj hl]
                · rw [List.getElem?_eq_none (by rw [wipe_length, wipe_length]; omega), List.getElem?_eq_none (by rw [wipe_length]; omega)]
              · rw [wipe_out hj]
            refine ⟨ew, ?_⟩
            have co : ∀ j, j ∉ own → c1[j]? = cs'[j]? := fun j hj => coff.2.1 j fun z => hj (hv j z)
            have co' : ∀ j ∈ own, ∀ t, ¬ OwC c1 j t := fun j hj t z => by
              by_cases hv' : j ∈ vs
              · obtain ⟨u, hu⟩ := coff.2.2 j hv'
                rcases z with z | z <;> rw [hu] at z <;> cases z
              · rcases z with z | z <;> rw [coff.2.1 j hv'] at z <;> cases un' j hj _ z
            -- D through the turn
            have nO1 : ¬ OwnAt c1 σ2 D := fun ⟨j, t, a, b⟩ => by
              have hj : j ∉ own := fun hj => co' j hj t a
              refine nO' ⟨j, t, ?_, by rw [← ew, wipe_out hj]; exact b⟩
              rcases a with a | a <;> rw [co j hj] at a
              · exact .inl a
              · exact .inr a
            obtain ⟨obD, eD, _⟩ := oD'.some
            have hD2 : H2 D = some obD := x2.h D obD eD
            have gD2 : G2 D = none := (x2.old D oD'.noT).trans gD'
            have oD2 : Own K G2 H2 (.list acc) D := oD'.mono x2.g (by rw [hD2, eD])
            -- what a turn that ended so gives
            have fin : ∀ {G3 H3 : Hp} {c3 : Cs}, FrE σ2 G2 H2 c1 G3 H3 c3 → SR K G3 H3 c3 σ2 →
                FrE (wipe σ own) G1 H1 (wipeC cs1 own) G3 H3 (wipeC c3 own) ∧ SR K G3 H3 (wipeC c3 own) (wipe σ own) ∧ (∀ i ∈ own, ∀ c, (wipeC c3 own)[i]? = some c → c = .un) ∧ G3 D = none ∧ ¬ OwnAt (wipeC c3 own) (wipe σ own) D ∧ Own K G3 H3 (.list acc) D :=
              fun {G3 H3 c3} f3 R3 => by
                have hl3 : c3.length = cs'.length := by
                  have h1 := congrArg List.length ew
                  rw [wipe_length, wipe_length] at h1
                  rw [R3.len, R'.len, wipe_length, h1]
                have ft := turn_fr un' ew co co' f3 hl3
                have Rw : SR K G3 H3 (wipeC c3 own) (wipe σ own) := by
                  have := R3.wipe (own := own)
                  rw [ew] at this
                  exact this
                refine ⟨(f'.trans (.ext x2)).trans ft, Rw, fun j hj c hc => ?_, f3.gfr D oD2.noT gD2 nO1, fun z => ?_, oD2.mono f3.g (by rw [hD2]; exact f3.keep D obD hD2 nO1)⟩
                · have hl : j < c3.length := by have := lt_of_get hc; rw [wipeC_length] at this; exact this
                  rw [wipeC_in hj hl] at hc
                  exact (Option.some.inj hc).symm
                · rcases ft.own D z with z | z
                  · exact nO' z
                  · rw [hD2] at z; cases z
            split at e'
            · rename_i c2 htt
              refine ⟨G2, c1, RR, true, c2, htt, fun G3 H3 f3 R3 => ?_⟩
              refine iteT ?_
              split at e'
              · rename_i r c3 hte
                split at e'
                · rename_i yv c4 hfr
                  split at e'
                  · rename_i ys' c5 hrest
                    cases e'
                    refine ⟨G3, c2, R3, r, c3, hte, fun G4 H4 v f4 R4 ok yg => ?_⟩
                    obtain ⟨G5, f5, R5, rel5⟩ := frz_ok f4 R4 ok yg hfr
                    obtain ⟨q1, q2, q3, q4, q5, q6⟩ := fin (f3.trans f5) R5
                    cases q6 with
                    | lst hDl rsl =>
                      refine ⟨_, hDl, ?_, G5, _, acc ++ [yv], ys', ?_, ?_, q3, q4, q5, .lst upd_same (rsl.app (.one rel5)), ?_, hrest, ?_⟩
                      · rw [rsl.length]
                        omega
                      · refine ⟨⟨q1.g, fun p o a b => ?_, q1.gfr, q1.own, fun p n => ?_, q1.bo, q1.bo'⟩, q1.fzk, q1.live, q1.back⟩
                        · have ne : p ≠ D := by rintro rfl; rw [nD] at a; cases a
                          rw [upd_ne ne]
                          exact q1.keep p o a b
                        · have ne : p ≠ D := by rintro rfl; exact n nD
                          rw [upd_ne ne]
                          exact q1.hmo p n
                      · refine ⟨⟨fun a u pu rd => ?_, fun a n => ?_, fun a vs tq => ?_⟩, q2.len, q2.fz, fun j t a => ?_, q2.apart⟩
                        · have ne : a ≠ D := by
                            rintro rfl
                            rcases rd with rd | ⟨_, rd⟩ <;> rw [q4] at rd <;> cases rd
                          rcases q2.le.rd a u pu rd with z | ⟨o, z⟩
                          · exact .inl (by rw [upd_ne ne]; exact z)
                          · exact .inr ⟨o, by rw [upd_ne ne]; exact z⟩
                        · by_cases ne : a = D
                          · subst ne; exact q4
                          · rw [upd_ne ne] at n; exact q2.le.dom a n
                        · have ne : a ≠ D := by rintro rfl; rw [q4] at tq; cases tq
                          rw [upd_ne ne]; exact q2.le.tp a vs tq
                        · obtain ⟨p, x, y, z⟩ := q2.ow j t a
                          have ne : p ≠ D := by rintro rfl; exact q5 ⟨j, t, a, x⟩
                          exact ⟨p, x, y, z.mono (.refl _) (upd_ne ne)⟩
                      · rw [List.length_append, List.length_singleton]; omega
                      · rw [List.append_assoc]; exact et
                  · cases e'
                · cases e'
              · cases e'
            · rename_i c2 htt
              refine ⟨G2, c1, RR, false, c2, htt, fun G3 H3 f3 R3 => ?_⟩
              refine iteF ?_
              obtain ⟨q1, q2, q3, q4, q5, q6⟩ := fin f3 R3
              exact ⟨G3, _, acc, ys, q1, q2, q3, q4, q5, q6, by omega, e', et⟩
            · cases e'
        · have ei : i = ts.length := by omega
          subst ei
          rw [List.drop_length] at e'
          cases e'
          obtain ⟨fe, Re⟩ := block_end R1 f' R'
          refine .inl ⟨W.stop _ G' H' f'.g R'.le (Nat.le_refl _), k G' H' _ (f1.trans fe) Re ⟨D, rfl, gD', ?_, fun z => ?_⟩ fun q eq => ?_⟩
          · rw [← et, List.append_nil]; exact oD'
          · rcases fe.own D z with z | z
            · exact (R1.own_ne z).1 nD
            · obtain ⟨i, t, a, b⟩ := ‹OwnAt (restC cs1 own cs2) σ D›
              by_cases hi : i ∈ own
              · have a1 : OwC cs1 i t := by
                  have hl2 : cs2.length = cs1.length := by rw [R'.len, wipe_length, R1.len]
                  rcases a with a | a <;> rw [restC_in hl2 hi] at a
                  · exact .inl a
                  · exact .inr a
                obtain ⟨p, x, y, z2⟩ := R1.ow i t a1
                rw [b] at x; cases x
                exact z2.ne nD
              · refine nO' ⟨i, t, ?_, by rw [wipe_out hi]; exact b⟩
                rcases a with a | a <;> rw [restC_out hi] at a
                · exact .inl a
                · exact .inr a
          · cases eq
            exact f1.toFr.dom D nD
      · cases e
    · cases e
  · cases e
abbrev STs (X : Cx) (ifs : List Expr) (m : MT) : Prop := PTs X ifs (tT X.K m)
theorem PTs.imp {ifs : List Expr} {t t' : TT} (h : PTs X ifs t) (i : ∀ σ H Q, t' σ H Q → t σ H Q) : PTs X ifs t' := ⟨fun pins s σ H Q I q => h.run pins s σ H Q I (i σ H Q q)⟩
theorem sts_nil : STs X [] mtYes := PTs.imp pts_nil fun σ H Q ⟨G, cs, R, b, cs', e, k⟩ => by
  cases e
  exact k G H .refl R
theorem sts_one {c : Expr} {t : MT} (h : ST X c t) : STs X [c] t := pts_one h
end
section
variable {X : Cx} {elt tg iter : Expr} {ifs : List Expr} {scope : Scope} {own : List (Str × Nat)} {vs : List Nat} {pos spos py : Pos} {mi : MI} {g : MG} {tt : MT} {te : ME}
theorem se_lc (hc : X.calm = true) (hN : X.N.Nodup) (ok : BlkOk X.N X.env.scope scope own) (hv : ∀ i ∈ vs, i ∈ own.map (·.2)) (hi : SI X tg iter mi)
    (hg : ∀ (s : Shared) (H : Hp) (C : Addr) (cl : List (Str × Addr)) (fp : List Addr), SG (X.blk s H scope (compEnvC scope cl C X.env) fp) tg vs g) (ht : ∀ (s : Shared) (H : Hp) (C : Addr) (cl : List (Str × Addr)) (fp : List Addr), STs (X.blk s H scope (compEnvC scope cl C X.env) fp) ifs tt)
    (he : ∀ (s : Shared) (H : Hp) (C : Addr) (cl : List (Str × Addr)) (fp : List Addr), SE (X.blk s H scope (compEnvC scope cl C X.env) fp) elt te) (hs : ∀ x, foldedSetIterable iter X.env x = pure x := by intro _; rfl) :
    SE X (.ListComp elt [⟨tg, iter, ifs, 0⟩] scope pos) (mLc (own.map (·.2)) mi g tt te) := PE.imp (pe_lc hc hN hi ok hg ht he hs) fun _ _ _ h => imp_lc hv h
theorem ss_setLc {i : Nat} {y : Str} (hc : X.calm = true) (hN : X.N.Nodup) (hy : X.N[i]? = some y) (hyl : X.env.scope.names.lookup y = some .local)
    (hsw : swapsWith (.ListComp elt [⟨tg, iter, ifs, 0⟩] scope pos) (some (.Name y py)) spos.line X.env = pure true) (ok : BlkOk X.N X.env.scope scope own) (hv : ∀ i ∈ vs, i ∈ own.map (·.2)) (hi : SI X tg iter mi)
    (hg : ∀ (s : Shared) (H : Hp) (C : Addr) (cl : List (Str × Addr)) (fp : List Addr), SG (X.blk s H scope (compEnvC scope cl C X.env) fp) tg vs g) (ht : ∀ (s : Shared) (H : Hp) (C : Addr) (cl : List (Str × Addr)) (fp : List Addr), STs (X.blk s H scope (compEnvC scope cl C X.env) fp) ifs tt)
    (he : ∀ (s : Shared) (H : Hp) (C : Addr) (cl : List (Str × Addr)) (fp : List Addr), SE (X.blk s H scope (compEnvC scope cl C X.env) fp) elt te) (hs : ∀ x, foldedSetIterable iter X.env x = pure x := by intro _; rfl) :
    SS X (.Assign [.Name y py] (.ListComp elt [⟨tg, iter, ifs, 0⟩] scope pos) spos) (sSet i (mLc (own.map (·.2)) mi g tt te)) := PS.imp (ps_setLc hc hN hy hyl hsw hi ok hg ht he hs) fun D σ H h => by
  obtain h1 : tAsg (tS X.K (mLc (own.map (·.2)) mi g tt te)) (gName i) D σ H := imp_sset h
  exact imp_lc hv h1
end
end TL
namespace TL
open PySem PySem.Spec L2
open PyProof.Rows (envOfC)

/-! ### an own object changes -/
def reC (cs : Cs) (i : Nat) (t : T) : Cs := match cs[i]? with
  | some (.ow _) => cs.set i (.ow t)
  | some (.bo _) => cs.set i (.bo t)
  | _ => cs
section
variable {K : Fg} {σ : L2.St} {G H G1 H1 : Hp} {cs : Cs} {i : Nat} {t t' : T} {p : Addr}
theorem reC_of (hc : OwC cs i t) : ∃ c, reC cs i t' = cs.set i c ∧ ((cs[i]? = some (.ow t) ∧ c = .ow t') ∨ (cs[i]? = some (.bo t) ∧ c = .bo t')) := by
  unfold reC
  rcases hc with h | h
  · rw [h]; exact ⟨_, rfl, .inl ⟨rfl, rfl⟩⟩
  · rw [h]; exact ⟨_, rfl, .inr ⟨rfl, rfl⟩⟩
theorem mut_ok (R : SR K G H cs σ) (hc : OwC cs i t) (ep : σ[i]? = some (some (.ref p))) (g : Le G G1) (le : Le G1 H1) (keep : ∀ q o, H q = some o → q ≠ p → H1 q = some o)
    (gfr : ∀ q, NoT (H q) → G q = none → G1 q = none) (own : Own K G1 H1 t' p) : FrE σ G H cs G1 H1 (reC cs i t') ∧ SR K G1 H1 (reC cs i t') σ := by
  obtain ⟨c, ec, kind⟩ := reC_of (t' := t') hc
  rw [ec]
  have hi : i < cs.length := by rcases hc with h | h <;> exact lt_of_get h
  have pat : OwnAt cs σ p := ⟨i, t, hc, ep⟩
  have hpn : NoT (H p) := (R.own_noT pat)
  have oc : ∀ {j : Nat} {u : T}, OwC (cs.set i c) j u → (j = i ∧ u = t') ∨ (j ≠ i ∧ OwC cs j u) := fun {j u} h => by
    rcases oc_set hi h with ⟨e, h⟩ | h
    · refine .inl ⟨e, ?_⟩
      rcases kind with ⟨_, rfl⟩ | ⟨_, rfl⟩ <;> rcases h with h | h <;> cases h <;> rfl
    · exact .inr h
  have co : ∀ {j : Nat} {u : T}, j ≠ i → OwC cs j u → OwC (cs.set i c) j u := fun {j u} ne h => by
    rcases h with h | h
    · exact .inl (by rw [set_other ne]; exact h)
    · exact .inr (by rw [set_other ne]; exact h)
  have ci : OwC (cs.set i c) i t' := by
    rcases kind with ⟨_, rfl⟩ | ⟨_, rfl⟩
    · exact .inl (set_self hi)
    · exact .inr (set_self hi)
  refine ⟨⟨⟨g, fun q o e n => keep q o e fun z => n (z ▸ pat), fun q a b _ => gfr q a b, fun q ⟨j, u, a, b⟩ => ?_, fun q n => ?_, fun j u e => ?_, fun j u e => ?_⟩, fun j u e => ?_, fun j u e => ?_, fun j u e => ?_⟩,
    ⟨le, by rw [List.length_set]; exact R.len, fun j u e => ?_, fun j u e => ?_, fun j k u w q a b ea eb => ?_⟩⟩
  · rcases oc a with ⟨e, _⟩ | ⟨_, a⟩
    · subst e; exact .inl ⟨j, t, hc, b⟩
    · exact .inl ⟨j, u, a, b⟩
  · by_cases e : q = p
    · subst e; exact own.ne
    · cases h : H q with
      | none => exact absurd h n
      | some o => rw [keep q o h e]; simp
  · by_cases ne : j = i
    · subst ne
      rcases kind with ⟨h, _⟩ | ⟨h, rfl⟩
      · rw [e] at h; cases h
      · exact ⟨t', set_self hi, rfl⟩
    · exact ⟨u, by rw [set_other ne]; exact e, rfl⟩
  · by_cases ne : j = i
    · subst ne
      rcases kind with ⟨h, rfl⟩ | ⟨h, rfl⟩
      · rw [set_self hi] at e; cases e
      · exact ⟨t, h⟩
    · rw [set_other ne] at e
      exact ⟨u, e⟩
  · have ne : j ≠ i := by
      rintro rfl
      rcases hc with h | h <;> rw [e] at h <;> cases h
    rw [set_other ne]; exact e
  · by_cases ne : j = i
    · subst ne; exact .inl ⟨t', ci⟩
    · exact .inl ⟨u, co ne e⟩
  · rcases oc e with ⟨e, _⟩ | ⟨_, e⟩
    · subst e; exact ⟨t, hc⟩
    · exact ⟨u, e⟩
  · have ne : j ≠ i := by
      rintro rfl
      rw [set_self hi] at e
      rcases kind with ⟨_, rfl⟩ | ⟨_, rfl⟩ <;> cases e
    rw [set_other ne] at e
    obtain ⟨v, a, b⟩ := R.fz j u e
    exact ⟨v, a, b.mono g⟩
  · rcases oc e with ⟨e, eu⟩ | ⟨ne, e⟩
    · subst e; subst eu
      exact ⟨p, ep, gfr p hpn (R.own_ne pat).2, own⟩
    · obtain ⟨q, a, b, z⟩ := R.ow j u e
      have nq : q ≠ p := by
        rintro rfl
        exact ne (R.apart j i u t q e hc a ep)
      obtain ⟨ob, eo, _⟩ := z.some
      exact ⟨q, a, gfr q z.noT b, z.mono g (by rw [eo]; exact keep q ob eo nq)⟩
  · have a' : OwC cs j (if j = i then t else u) := by
      rcases oc a with ⟨e, _⟩ | ⟨ne, a⟩
      · rw [if_pos e, e]; exact hc
      · rw [if_neg ne]; exact a
    have b' : OwC cs k (if k = i then t else w) := by
      rcases oc b with ⟨e, _⟩ | ⟨ne, b⟩
      · rw [if_pos e, e]; exact hc
      · rw [if_neg ne]; exact b
    exact R.apart j k _ _ q a' b' ea eb
end

/-! ### what a def promises -/
def NoOw (cs : Cs) : Prop := ∀ (i : Nat) (t : T), cs[i]? ≠ some (Cell.ow t)
abbrev FN := Cs → Option (Out × Cs)
structure FnPost (K : Fg) (σ : L2.St) (G H : Hp) (cs cs' : Cs) (G' H' : Hp) (o : Out) (v : V) : Prop where
  g : Le G G'
  le : Le G' H'
  keep : ∀ p o, H p = some o → ¬ OwnAt cs σ p → H' p = some o
  gfr : ∀ p, NoT (H p) → G p = none → G' p = none
  hmo : ∀ p, H p ≠ none → H' p ≠ none
  bo : ∀ (i : Nat) (t : T), cs[i]? = some (Cell.bo t) → ∃ t' p, cs'[i]? = some (Cell.bo t') ∧ σ[i]? = some (some (V.ref p)) ∧ Own K G' H' t' p
  out : OutOk K H G' H' o v
def spS (K : Fg) (n : Nat) (F : FN) : Sp := fun vs H Q _ => ∃ G cs, cs.length = n ∧ SR K G H cs (vs.map some) ∧ NoOw cs ∧ ∃ o cs', F cs = some (o, cs') ∧
  ∀ G' H' v, FnPost K (vs.map some) G H cs cs' G' H' o v → Q v H'
def runF (k : Nat) (body : MS) : FN := fun cs => match body (cs ++ List.replicate k .un) with
  | some (.rt o, cs') => some (o, cs')
  | some (.nx, cs') => some (.fz .none, cs')
  | _ => none
section
variable {K : Fg} {G H G' H' : Hp} {cs cs' : Cs} {vs : List V} {k : Nat}
theorem get_pad {i : Nat} {c : Cell} (h : (cs ++ List.replicate k Cell.un)[i]? = some c) (n : c ≠ .un) : i < cs.length ∧ cs[i]? = some c := by
  by_cases hi : i < cs.length
  · rw [List.getElem?_append_left hi] at h
    exact ⟨hi, h⟩
  · rw [List.getElem?_append_right (by omega), List.getElem?_replicate] at h
    split at h
    · exact absurd (Option.some.inj h).symm n
    · cases h
theorem get_padV {i : Nat} (h : i < vs.length) : (vs.map some ++ List.replicate k (none : Option V))[i]? = (vs.map some)[i]? := List.getElem?_append_left (by rw [List.length_map]; exact h)
theorem SR.pad (R : SR K G H cs (vs.map some)) : SR K G H (cs ++ List.replicate k .un) (vs.map some ++ List.replicate k none) := by
  have hl : cs.length = vs.length := by rw [R.len, List.length_map]
  have oc : ∀ {i : Nat} {t : T}, OwC (cs ++ List.replicate k .un) i t → i < vs.length ∧ OwC cs i t := fun {i t} h => by
    rcases h with h | h
    · obtain ⟨a, b⟩ := get_pad h (fun z => by cases z)
      exact ⟨by omega, .inl b⟩
    · obtain ⟨a, b⟩ := get_pad h (fun z => by cases z)
      exact ⟨by omega, .inr b⟩
  refine ⟨R.le, by simp [hl], fun i t e => ?_, fun i t e => ?_, fun i j t u p a b ea eb => ?_⟩
  · obtain ⟨a, b⟩ := get_pad e (fun z => by cases z)
    rw [get_padV (by omega)]
    exact R.fz i t b
  · obtain ⟨a, b⟩ := oc e
    rw [get_padV a]
    exact R.ow i t b
  · obtain ⟨a1, a⟩ := oc a
    obtain ⟨b1, b⟩ := oc b
    rw [get_padV a1] at ea
    rw [get_padV b1] at eb
    exact R.apart i j t u p a b ea eb
end
section
variable {P : Program} {w : World} {K : PySem.W.Frag} {mg : Str → Option Value} {base : Heap}
theorem fn_core {N ps : List Str} {n : Nat} {b : MS} (hn : N.length = ps.length + n) {vs : List V} {H : Hp} {Q : VK} {E : XK} (h : spS K ps.length (runF n b) vs H Q E) : tSt K b { nx := fun _ H' => Q .non H', rt := Q } (L2.start N vs) H := by
    obtain ⟨G, cs, hl, R, no, o, cs', e, k⟩ := h
    have hlv : cs.length = vs.length := by rw [R.len, List.length_map]
    have es : L2.start N vs = vs.map some ++ List.replicate n none := by
      unfold L2.start
      have : N.length - vs.length = n := by omega
      rw [this]
    rw [es]
    have R0 : SR K G H (cs ++ List.replicate n .un) (vs.map some ++ List.replicate n none) := R.pad
    have up : ∀ {p : Addr}, OwnAt (cs ++ List.replicate n .un) (vs.map some ++ List.replicate n none) p → OwnAt cs (vs.map some) p := fun {p} ⟨i, t, a, c⟩ => by
      rcases a with a | a
      · exact absurd (get_pad a (fun z => by cases z)).2 (no i t)
      · obtain ⟨h1, h2⟩ := get_pad a (fun z => by cases z)
        rw [get_padV (by omega)] at c
        exact ⟨i, t, .inr h2, c⟩
    have bo_up : ∀ {i : Nat} {t : T}, cs[i]? = some (Cell.bo t) → (cs ++ List.replicate n .un)[i]? = some (Cell.bo t) := fun {i t} h => by
      rw [List.getElem?_append_left (lt_of_get h)]; exact h
    -- the end
    have fin : ∀ {o : Out} {σ' : L2.St} {G' H' : Hp} {cs' : Cs} {v : V}, Fr (vs.map some ++ List.replicate n none) G H (cs ++ List.replicate n .un) σ' G' H' cs' → SR K G' H' cs' σ' →
        RtOk K (vs.map some ++ List.replicate n none) H (cs ++ List.replicate n .un) σ' G' H' cs' o v → FnPost K (vs.map some) G H cs cs' G' H' o v := fun {o σ' G' H' cs' v} f R' ro => by
      have bo : ∀ (i : Nat) (t : T), cs[i]? = some (Cell.bo t) → ∃ t' p, cs'[i]? = some (Cell.bo t') ∧ (vs.map some)[i]? = some (some (V.ref p)) ∧ σ'[i]? = some (some (V.ref p)) ∧ G' p = none ∧ Own K G' H' t' p := fun i t h => by
        obtain ⟨t', a, c⟩ := f.bo i t (bo_up h)
        obtain ⟨p, x, y, z⟩ := R'.ow i t' (.inr a)
        have hi : i < vs.length := by have := lt_of_get h; omega
        rw [get_padV hi] at c
        exact ⟨t', p, a, by rw [← c]; exact x, x, y, z⟩
      refine ⟨f.g, R'.le, fun p o a c => f.keep p o a fun z => c (up z), fun p a c => ?_, f.hmo, fun i t h => ?_, ?_⟩
      · by_cases z : OwnAt (cs ++ List.replicate n .un) (vs.map some ++ List.replicate n none) p
        · obtain ⟨i, t, d, e⟩ := up z
          have d : cs[i]? = some (Cell.bo t) := d.resolve_left (no i t)
          obtain ⟨t', q, _, e2, _, g0, _⟩ := bo i t d
          rw [e] at e2; cases e2
          exact g0
        · exact f.gfr p a c z
      · obtain ⟨t', p, a, c, _, _, d⟩ := bo i t h
        exact ⟨t', p, a, c, d⟩
      · cases o with
        | fz t => exact ro
        | nw t =>
          obtain ⟨p, rfl, g0, ow, nb, young⟩ := ro
          refine ⟨p, rfl, ?_, g0, ow⟩
          rcases young with y | y
          · obtain ⟨i, u, d, e⟩ := up y
            have d : cs[i]? = some (Cell.bo u) := d.resolve_left (no i u)
            obtain ⟨t', q, e1, e2, e3, _, _⟩ := bo i u d
            rw [e] at e2; cases e2
            exact absurd ⟨i, t', e1, e3⟩ nb
          · exact y
    simp only [runF] at e
    split at e
    · rename_i o1 c1 h1
      cases e
      exact ⟨G, _, R0, _, _, h1, fun σ' G' H' v f R' ro => k G' H' v (fin f R' ro)⟩
    · rename_i c1 h1
      cases e
      exact ⟨G, _, R0, _, _, h1, fun σ' G' H' f R' => k G' H' .non (fin f R' (o := .fz .none) .non)⟩
    · cases e
theorem fn_ok {x qual : Str} {st : Stmt} {f : Addr} {fd : FuncData} {N ps : List Str} {k n : Nat} {b : MS} (F : Fun K x qual st f fd) (S : FnScope N ps (defScope st)) (hn : N.length = ps.length + n)
    (hbody : ∀ (cdv : Value) (A : Around) (outer : List Env) (s : Shared) (H : Hp) (E : XK), Room k (A.deeper (envOfC qual (defScope st) s.heap.objs.size f cdv)) →
      SSs (cxOf CX0 P w K mg base N qual (defScope st) f cdv A outer s H E).nox (defBody st) b) : FnOk P w K mg base CX0 (k + 1) f fd ps (spS K ps.length (runF n b)) := by
  refine F.ok S (fun vs H Q E h => ?_) (fun cdv A outer s H vs Q E hr h => ?_)
  · obtain ⟨G, cs, hl, R, _⟩ := h
    have := R.len
    rw [List.length_map] at this
    omega
  · exact ⟨_, hbody cdv A outer s H E hr, fn_core hn h⟩
end

/-! ### calls of defs -/
/-- no argument is lent -/
def mCal (F : FN) (ms : MA) : ME := fun cs => match ms cs with
  | some (rs, cs1) => match fzs rs with
    | some ts => match F (ts.map Cell.fz) with
      | some (o, _) => some (o.rs, cs1)
      | none => none
    | none => none
  | none => none
/-- the first argument is lent: an own object in a slot -/
def mCalB (F : FN) (ms : MA) : ME := fun cs => match ms cs with
  | some (.sl i :: rs, cs1) => match fzs rs with
    | some ts => match cs1[i]? with
      | some (.ow t) => match F (.bo t :: ts.map Cell.fz) with
        | some (o, .bo t' :: _) => some (o.rs, cs1.set i (.ow t'))
        | _ => none
      | some (.bo t) => match F (.bo t :: ts.map Cell.fz) with
        | some (o, .bo t' :: _) => some (o.rs, cs1.set i (.bo t'))
        | _ => none
      | _ => none
    | none => none
  | _ => none
section
variable {K : Fg} {σ : L2.St} {G H G1 H1 : Hp} {cs : Cs} {ts : List T} {vs : List V}
theorem args_sr (l : Le G H) (r : Rels K G ts vs) : SR K G H (ts.map Cell.fz) (vs.map some) := by
  have no : ∀ {i : Nat} {t : T}, ¬ OwC (ts.map Cell.fz) i t := fun {i t} h => by
    rcases h with h | h <;> rw [List.getElem?_map] at h <;> cases e : ts[i]? <;> rw [e] at h <;> cases h
  refine ⟨l, by rw [List.length_map, List.length_map, r.length], fun i t e => ?_, fun i t e => (no e).elim, fun i j t u p a _ _ _ => (no a).elim⟩
  rw [List.getElem?_map] at e
  cases h : ts[i]? with
  | none => rw [h] at e; cases e
  | some t' =>
    rw [h] at e; cases e
    obtain ⟨v, a, b⟩ := r.get h
    exact ⟨v, by rw [List.getElem?_map, a]; rfl, b⟩
theorem args_no : NoOw (ts.map Cell.fz) := fun i t h => by
  rw [List.getElem?_map] at h
  cases e : ts[i]? <;> rw [e] at h <;> cases h
theorem args_own {p : Addr} (h : OwnAt (ts.map Cell.fz) σ p) : False := by
  obtain ⟨i, t, a, b⟩ := h
  rcases a with a | a <;> rw [List.getElem?_map] at a <;> cases e : ts[i]? <;> rw [e] at a <;> cases a
/-- behind a call that lends nothing -/
theorem call_sr (R : SR K G H cs σ) {cs' : Cs} {o : Out} {v : V} (F : FnPost K (vs.map some) G H (ts.map Cell.fz) cs' G1 H1 o v) : FrE σ G H cs G1 H1 cs ∧ SR K G1 H1 cs σ ∧ RsOk K G1 H1 cs σ o.rs v ∧ Young H o.rs v := by
  have keep : ∀ p o, H p = some o → H1 p = some o := fun p o e => F.keep p o e fun z => args_own z
  have R1 : SR K G1 H1 cs σ := by
    refine ⟨F.le, R.len, fun i t e => ?_, fun i t e => ?_, R.apart⟩
    · obtain ⟨v, a, b⟩ := R.fz i t e
      exact ⟨v, a, b.mono F.g⟩
    · obtain ⟨p, a, b, z⟩ := R.ow i t e
      obtain ⟨ob, eo, _⟩ := z.some
      exact ⟨p, a, F.gfr p z.noT b, z.mono F.g (by rw [eo]; exact keep p ob eo)⟩
  refine ⟨⟨⟨F.g, fun p o e _ => keep p o e, fun p a b _ => F.gfr p a b, fun p h => .inl h, F.hmo, fun i t e => ⟨t, e, rfl⟩, fun i t e => ⟨t, e⟩⟩, fun _ _ e => e, fun i t e => .inl ⟨t, e⟩, fun i t e => ⟨t, e⟩⟩, R1, ?_⟩
  have oo := F.out
  cases o with
  | fz t => exact ⟨oo, trivial⟩
  | nw t =>
    obtain ⟨p, rfl, n, ng, ow⟩ := oo
    exact ⟨⟨p, rfl, ng, ow, fun z => (R.own_ne z).1 n⟩, fun q e => by cases e; exact n⟩
end
section
variable {X : Cx} {e : Expr} {es : List Expr} {ms : MA} {F : FN} {K : Fg} {σ : L2.St} {H : Hp} {Q : VK} {n : Nat} {E : XK}
theorem imp_cal (hn : ∀ cs rs cs', ms cs = some (rs, cs') → rs.length = n) (h : tS K (mCal F ms) σ H Q) : tCall (spS K n F) [] E (tA K ms) σ H Q := by
  obtain ⟨G, cs, R, r, cs', e, k⟩ := h
  simp only [mCal] at e
  split at e
  · rename_i rs cs1 h1
    split at e
    · rename_i ts h2
      split at e
      · rename_i o cf h3
        cases e
        refine ⟨G, cs, R, rs, cs', h1, fun G1 H1 vs f R1 ok => ?_⟩
        have rel := ok.fzs h2
        show spS K n F (vs ++ []) H1 Q E
        rw [List.append_nil]
        refine ⟨G1, ts.map Cell.fz, ?_, args_sr R1.le rel, args_no, o, cf, h3, fun G2 H2 v post => ?_⟩
        · have h0 := hn _ _ _ h1
          have h4 : ∀ {rs : List Rs} {vs : List V}, RsAll K G1 H1 cs' σ rs vs → rs.length = vs.length := by
            intro rs
            induction rs with
            | nil => intro vs h; cases h; rfl
            | cons r rs ih => intro vs h; cases h with | cons a b => rw [List.length_cons, List.length_cons, ih b]
          rw [List.length_map, ← rel.length, ← h4 ok, h0]
        · obtain ⟨q1, q2, q3, q4⟩ := call_sr R1 post
          exact k G2 H2 v (f.trans q1) q2 q3 (q4.up f)
      · cases e
    · cases e
  · cases e
theorem imp_calB (hn : ∀ cs rs cs', ms cs = some (rs, cs') → rs.length = n) (h : tS K (mCalB F ms) σ H Q) : tCall (spS K n F) [] E (tA K ms) σ H Q := by
  obtain ⟨G, cs, R, r, cs', e, k⟩ := h
  -- one proof for an own and for a lent object
  have core : ∀ {i : Nat} {rs : List Rs} {cs1 : Cs} {ts : List T} {t t' : T} {o : Out} {cf : Cs}, ms cs = some (.sl i :: rs, cs1) → fzs rs = some ts → OwC cs1 i t → F (.bo t :: ts.map Cell.fz) = some (o, .bo t' :: cf) →
      r = o.rs → cs' = reC cs1 i t' → tCall (spS K n F) [] E (tA K ms) σ H Q := by
    intro i rs cs1 ts t t' o cf h1 h2 hc h3 er ec
    subst er; subst ec
    refine ⟨G, cs, R, _, cs1, h1, fun G1 H1 vs f R1 ok => ?_⟩
    show spS K n F (vs ++ []) H1 Q E
    rw [List.append_nil]
    cases ok with
    | @cons _ v0 _ vs' ok0 okr =>
      have rel := okr.fzs h2
      obtain ⟨ev, _⟩ := ok0
      obtain ⟨p, ep, gp, ow⟩ := R1.ow i t hc
      rw [ev] at ep; cases ep
      have h4 : ∀ {rs : List Rs} {vs : List V}, RsAll K G1 H1 cs1 σ rs vs → rs.length = vs.length := by
        intro rs
        induction rs with
        | nil => intro vs h; cases h; rfl
        | cons r rs ih => intro vs h; cases h with | cons a b => rw [List.length_cons, List.length_cons, ih b]
      have hlen := hn _ _ _ h1
      have A0 := args_sr R1.le rel
      have oc : ∀ {j : Nat} {u : T}, OwC (Cell.bo t :: ts.map Cell.fz) j u → j = 0 ∧ u = t := fun {j u} a => by
        cases j with
        | zero => rcases a with a | a <;> simp at a; exact ⟨rfl, a.symm⟩
        | succ j =>
          exfalso
          have a' : OwC (ts.map Cell.fz) j u := by
            rcases a with a | a
            · exact .inl (by simpa using a)
            · exact .inr (by simpa using a)
          rcases a' with a | a <;> rw [List.getElem?_map] at a <;> cases e : ts[j]? <;> rw [e] at a <;> cases a
      have A : SR K G1 H1 (Cell.bo t :: ts.map Cell.fz) ((V.ref p :: vs').map some) := by
        refine ⟨R1.le, by simp [rel.length], fun j u a => ?_, fun j u a => ?_, fun j k u w q a b _ _ => ?_⟩
        · cases j with
          | zero => simp at a
          | succ j => exact A0.fz j u (by simpa using a)
        · obtain ⟨rfl, rfl⟩ := oc a
          exact ⟨p, rfl, gp, ow⟩
        · rw [(oc a).1, (oc b).1]
      refine ⟨G1, _, ?_, A, ?_, o, _, h3, fun G2 H2 v post => ?_⟩
      · rw [List.length_cons] at hlen
        rw [List.length_cons, List.length_map, ← rel.length, ← h4 okr, hlen]
      · intro j u a
        cases j with
        | zero => simp at a
        | succ j => exact args_no (ts := ts) j u (by simpa using a)
      · obtain ⟨t2, p2, e2, e3, own2⟩ := post.bo 0 t rfl
        simp at e2 e3
        subst e2; subst e3
        have nat : ∀ q, q ≠ p → ¬ OwnAt (Cell.bo t :: ts.map Cell.fz) ((V.ref p :: vs').map some) q := fun q ne ⟨j, u, a, b⟩ => by
          obtain ⟨rfl, _⟩ := oc a
          simp at b
          exact ne b.symm
        obtain ⟨q1, q2⟩ := mut_ok (t' := t') R1 hc ev post.g post.le (fun q ob e ne => post.keep q ob e (nat q ne)) post.gfr own2
        have oo := post.out
        have fin : RsOk K G2 H2 (reC cs1 i t') σ o.rs v ∧ Young H1 o.rs v := by
          cases o with
          | fz u => exact ⟨oo, trivial⟩
          | nw u =>
            obtain ⟨q, rfl, nq, ng, oq⟩ := oo
            refine ⟨⟨q, rfl, ng, oq, fun z => ?_⟩, fun q' e => by cases e; exact nq⟩
            rcases q1.own q z with z | z
            · exact (R1.own_ne z).1 nq
            · obtain ⟨j, u', a, b⟩ := ‹OwnAt (reC cs1 i t') σ q›
              obtain ⟨u2, a2⟩ := q1.back j u' a
              exact (R1.own_ne ⟨j, u2, a2, b⟩).1 nq
        exact k G2 H2 v (f.trans q1) q2 fin.1 (fin.2.up f)
  simp only [mCalB] at e
  split at e
  · rename_i i rs cs1 h1
    split at e
    · rename_i ts h2
      split at e
      · rename_i t hc
        split at e
        · rename_i o t' cf h3
          cases e
          exact core h1 h2 (.inl hc) h3 rfl (by simp only [reC, hc])
        · cases e
      · rename_i t hc
        split at e
        · rename_i o t' cf h3
          cases e
          exact core h1 h2 (.inr hc) h3 rfl (by simp only [reC, hc])
        · cases e
      · cases e
    · cases e
  · cases e
end
section
variable {X : Cx} {k n : Nat} {f : Addr} {fd : FuncData} {ps : List Str} {x : Str} {p pos : Pos} {e : Expr} {es : List Expr} {ms : MA} {F : FN}
theorem se_cal (O : FnOk X.prog X.w X.K X.mg X.base CX0 k f fd ps (spS X.K n F)) (hr : Room k X.A) (hg : Gl X x) (hm : X.mg x = some (.ref f)) (hk : PySem.W.keepIn X.K (.ref f) = true) (hb : Binds X.K fd ps [])
    (ha : SA X (e :: es) ms) (hn : ∀ cs rs cs', ms cs = some (rs, cs') → rs.length = n) (hdb : (x == ("__debug__" : Str)) = false := by decide) (he : starEach (e :: es) X.env = (false, eval e X.env) :: starEach es X.env := by rfl) (hpl : (backTo pos (starEach es X.env)).any (·.1) = false := by rfl) :
    SE X (.Call (.Name x p) (e :: es) [] pos) (mCal F ms) := PE.imp (pe_call O hr hg hm hk hb .nil pass0 ha hdb he hpl) fun _ _ _ h => imp_cal hn h
theorem se_calB (O : FnOk X.prog X.w X.K X.mg X.base CX0 k f fd ps (spS X.K n F)) (hr : Room k X.A) (hg : Gl X x) (hm : X.mg x = some (.ref f)) (hk : PySem.W.keepIn X.K (.ref f) = true) (hb : Binds X.K fd ps [])
    (ha : SA X (e :: es) ms) (hn : ∀ cs rs cs', ms cs = some (rs, cs') → rs.length = n) (hdb : (x == ("__debug__" : Str)) = false := by decide) (he : starEach (e :: es) X.env = (false, eval e X.env) :: starEach es X.env := by rfl) (hpl : (backTo pos (starEach es X.env)).any (·.1) = false := by rfl) :
    SE X (.Call (.Name x p) (e :: es) [] pos) (mCalB F ms) := PE.imp (pe_call O hr hg hm hk hb .nil pass0 ha hdb he hpl) fun _ _ _ h => imp_calB hn h
theorem se_cal0 (O : FnOk X.prog X.w X.K X.mg X.base CX0 k f fd ps (spS X.K 0 F)) (hr : Room k X.A) (hg : Gl X x) (hm : X.mg x = some (.ref f)) (hk : PySem.W.keepIn X.K (.ref f) = true) (hb : Binds X.K fd ps [])
    (hdb : (x == ("__debug__" : Str)) = false := by decide) : SE X (.Call (.Name x p) [] [] pos) (mCal F mNil) := by
  refine PE.imp (pe_call0 O hr hg hm hk hb .nil pass0 hdb) fun σ H Q h => ?_
  have h1 : tCall (spS X.K 0 F) [] E0 (tA X.K mNil) σ H Q := imp_cal (fun cs rs cs' e => by cases e; rfl) h
  obtain ⟨G, cs, R, rs, cs', e, k⟩ := h1
  cases e
  exact k G H [] .refl R .nil
/-- how many arguments -/
theorem len_nil : ∀ cs rs cs', mNil cs = some (rs, cs') → rs.length = 0 := fun cs rs cs' e => by cases e; rfl
theorem len_cons {m : ME} {ms : MA} {n : Nat} (h : ∀ cs rs cs', ms cs = some (rs, cs') → rs.length = n) : ∀ cs rs cs', mCons m ms cs = some (rs, cs') → rs.length = n + 1 := fun cs rs cs' e => by
  simp only [mCons] at e
  split at e
  · split at e
    · rename_i h2
      cases e
      rw [List.length_cons, h _ _ _ h2]
    · cases e
  · cases e
end
end TL
namespace TL
open PySem PySem.Spec L2
open PyProof.Rows (envOfC)

/-! ### methods that change an own object -/
def rM (K : Fg) (F : T → List T → Option (T × T)) : V → List V → Hp → VK → Prop := fun x vs H Q => ∃ G p t ts t' u, x = .ref p ∧ Le G H ∧ G p = none ∧ Own K G H t p ∧ Rels K G ts vs ∧ F t ts = some (t', u) ∧
  ∀ H' v, (∀ q, q ≠ p → H' q = H q) → Own K G H' t' p → Rel K G u v → Q v H'
def isTy (n : String) : T → Bool
  | .list _ => n == "list"
  | _ => false
def mMut (i : Nat) (n : String) (F : T → List T → Option (T × T)) (ms : MA) : ME := fun cs => match cs[i]? with
  | some (.ow t0) => if isTy n t0 then match ms cs with
      | some (rs, cs1) => match fzs rs with
        | some ts => match cs1[i]? with
          | some (.ow t) => match F t ts with
            | some (t', u) => some (.fz u, cs1.set i (.ow t'))
            | none => none
          | _ => none
        | none => none
      | none => none
    else none
  | some (.bo t0) => if isTy n t0 then match ms cs with
      | some (rs, cs1) => match fzs rs with
        | some ts => match cs1[i]? with
          | some (.bo t) => match F t ts with
            | some (t', u) => some (.fz u, cs1.set i (.bo t'))
            | none => none
          | _ => none
        | none => none
      | none => none
    else none
  | _ => none
section
variable {K : Fg} {σ : L2.St} {G H G1 H1 : Hp} {cs : Cs} {i : Nat} {t t' : T} {p : Addr}
theorem Le.off {H' : Hp} (l : Le G H) (n : G p = none) (h : ∀ q, q ≠ p → H' q = H q) (hp : H' p ≠ none) : Le G H' := by
  have ne : ∀ {a : Addr} {o : HO}, G a = some o → a ≠ p := fun {a o} e z => by rw [z, n] at e; cases e
  refine ⟨fun a u pu rd => ?_, fun a e => ?_, fun a vs e => ?_⟩
  · have na : a ≠ p := by
      rcases rd with rd | ⟨o, rd⟩
      · exact ne rd
      · exact ne rd
    rcases l.rd a u pu rd with z | ⟨o, z⟩
    · exact .inl ((h a na).trans z)
    · exact .inr ⟨o, (h a na).trans z⟩
  · by_cases na : a = p
    · rw [na]; exact n
    · exact l.dom a ((h a na).symm.trans e)
  · exact (h a (ne e)).trans (l.tp a vs e)
theorem mut_off {H' : Hp} (R : SR K G H cs σ) (hc : OwC cs i t) (ep : σ[i]? = some (some (.ref p))) (n : G p = none) (h : ∀ q, q ≠ p → H' q = H q) (own : Own K G H' t' p) :
    FrE σ G H cs G H' (reC cs i t') ∧ SR K G H' (reC cs i t') σ :=
  mut_ok R hc ep (.refl _) (R.le.off n h own.ne) (fun q o e ne => (h q ne).trans e) (fun _ _ e => e) own
theorem isTy_list {n : String} {t : T} (h : isTy n t = true) : n = "list" ∧ ∃ ts, t = .list ts := by
  cases t with
  | list ts => exact ⟨by simpa [isTy] using h, ts, rfl⟩
  | _ => cases h
end
section
variable {X : Cx} {K : Fg} {σ : L2.St} {H : Hp} {Q : VK} {i : Nat} {n : String} {F : T → List T → Option (T × T)} {ms : MA}
theorem imp_mut (h : tS K (mMut i n F ms) σ H Q) : tBM K n (rM K F) (tVar i) (tA K ms) σ H Q := by
  obtain ⟨G, cs, R, r, cs', e, k⟩ := h
  have core : ∀ {t0 : T} {rs : List Rs} {cs1 : Cs} {ts : List T} {t t' u : T}, OwC cs i t0 → isTy n t0 = true → ms cs = some (rs, cs1) → fzs rs = some ts → OwC cs1 i t → F t ts = some (t', u) → r = .fz u → cs' = reC cs1 i t' →
      tBM K n (rM K F) (tVar i) (tA K ms) σ H Q := by
    intro t0 rs cs1 ts t t' u hc0 hty h1 h2 hc hF er ec
    subst er; subst ec
    obtain ⟨p, ep, gp, ow⟩ := R.ow i t0 hc0
    obtain ⟨en, us, et⟩ := isTy_list hty
    subst et; subst en
    refine ⟨_, ep, ?_, G, cs, R, rs, cs1, h1, fun G1 H1 vs f R1 ok => ?_⟩
    · cases ow with
      | lst e _ => exact .inl ⟨rfl, _, .inl (.inl e)⟩
    · obtain ⟨q, eq, gq, ow1⟩ := R1.ow i t hc
      rw [ep] at eq; cases eq
      refine ⟨G1, p, t, ts, t', u, rfl, R1.le, gq, ow1, ok.fzs h2, hF, fun H2 v off own2 rel => ?_⟩
      obtain ⟨q1, q2⟩ := mut_off R1 hc ep gq off own2
      exact k G1 H2 v (f.trans q1) q2 rel trivial
  simp only [mMut] at e
  split at e
  · rename_i t0 hc0
    split at e
    · rename_i hty
      split at e
      · rename_i rs cs1 h1
        split at e
        · rename_i ts h2
          split at e
          · rename_i t hc
            split at e
            · rename_i t' u hF
              cases e
              exact core (.inl hc0) hty h1 h2 (.inl hc) hF rfl (by simp only [reC, hc])
            · cases e
          · cases e
        · cases e
      · cases e
    · cases e
  · rename_i t0 hc0
    split at e
    · rename_i hty
      split at e
      · rename_i rs cs1 h1
        split at e
        · rename_i ts h2
          split at e
          · rename_i t hc
            split at e
            · rename_i t' u hF
              cases e
              exact core (.inr hc0) hty h1 h2 (.inr hc) hF rfl (by simp only [reC, hc])
            · cases e
          · cases e
        · cases e
      · cases e
    · cases e
  · cases e
theorem imp_mut0 (h : tS K (mMut i n F mNil) σ H Q) : tBM0 K n (rM K F) (tVar i) σ H Q := by
  obtain ⟨v, ev, ty, G, cs, R, rs, cs', e, k⟩ := imp_mut h
  cases e
  exact ⟨v, ev, ty, k G H [] .refl R .nil⟩
variable {x : Str} {e : Expr} {es : List Expr} {name : Str} {apos cpos pos : Pos} {id : String}
theorem se_mut (slot : Slot n name id) (hty : typeOf (.builtin id) = pure (.type "method_descriptor")) (pa : PlainAttrs n) (hm : MtR X id (rM X.K F)) (hN : X.N[i]? = some x) (hv : Vis X.env.scope x) (ha : SA X (e :: es) ms)
    (hd : (x == ("__debug__" : Str)) = false := by decide) (hcd : (x == ("__classdict__" : Str)) = false := by decide)
    (hbase : attributeBase (.Name x pos) name X.env (eval (.Name x pos) X.env) = eval (.Name x pos) X.env := by rfl)
    (hfew : ((backTo cpos (starEach (e :: es) X.env)).all (fun x => !x.1) && (backToKw cpos (keywordEach [] X.env)).all (fun x => x.1.isSome)
      && decide ((e :: es).length + ([] : List Keyword).length + (if ([] : List Keyword).isEmpty then 0 else 1) < 30)) = true := by rfl)
    (hline : (apos.endLine == cpos.line) = true := by rfl) (hs : starEach (e :: es) X.env = (false, eval e X.env) :: starEach es X.env := by rfl) (hplain : (backTo cpos (starEach es X.env)).any (·.1) = false := by rfl) :
    SE X (.Call (.Attribute (.Name x pos) name apos) (e :: es) [] cpos) (mMut i n F ms) :=
  PE.imp (pe_bm pa slot hty hm (pe_var hN hv hd hcd) ha hbase hfew hline hs hplain) fun _ _ _ h => imp_mut h
theorem se_mut0 (slot : Slot n name id) (hty : typeOf (.builtin id) = pure (.type "method_descriptor")) (pa : PlainAttrs n) (hm : MtR X id (rM X.K F)) (hN : X.N[i]? = some x) (hv : Vis X.env.scope x)
    (hd : (x == ("__debug__" : Str)) = false := by decide) (hcd : (x == ("__classdict__" : Str)) = false := by decide)
    (hbase : attributeBase (.Name x pos) name X.env (eval (.Name x pos) X.env) = eval (.Name x pos) X.env := by rfl)
    (hline : (apos.endLine == cpos.line) = true := by rfl) :
    SE X (.Call (.Attribute (.Name x pos) name apos) [] [] cpos) (mMut i n F mNil) :=
  PE.imp (pe_bm0 pa slot hty hm (pe_var hN hv hd hcd) hbase hline) fun _ _ _ h => imp_mut0 h
end
/-! the list's methods -/
def appT : T → List T → Option (T × T)
  | .list ts, [t] => if ts.length < sizeLine then some (.list (ts ++ [t]), .none) else none
  | _, _ => none
def extT : T → List T → Option (T × T)
  | .list ts, [.list us] => if ts.length + us.length ≤ sizeLine then some (.list (ts ++ us), .none) else none
  | _, _ => none
def popT : T → List T → Option (T × T)
  | .list ts, [] => match ts[ts.length - 1]? with
    | some t => some (.list ts.dropLast, t)
    | none => none
  | _, _ => none
def popAtT : T → List T → Option (T × T)
  | .list ts, [.int i] => if -(2 ^ 63) ≤ i ∧ i < 2 ^ 63 then match ixN ts.length i with
      | some j => match ts[j]? with
        | some t => some (.list (ts.eraseIdx j), t)
        | none => none
      | none => none
    else none
  | _, _ => none
def insT : T → List T → Option (T × T)
  | .list ts, [.int i, t] => if ts.length < sizeLine ∧ 0 ≤ i ∧ i < 2 ^ 63 then some (.list (ts.take i.toNat ++ [t] ++ ts.drop i.toNat), .none) else none
  | _, _ => none
section
variable {X : Cx}
theorem MtR.imp {id : String} {r r' : V → List V → Hp → VK → Prop} (h : MtR X id r) (i : ∀ x xs H Q, r' x xs H Q → r x xs H Q) : MtR X id r' := fun pins s σ H x xs v us Q I rx rs q => h pins s σ H x xs v us Q I rx rs (i x xs H Q q)
theorem dropLast_rels {K : Fg} {G : Hp} {ts : List T} {vs : List V} (r : Rels K G ts vs) : Rels K G ts.dropLast vs.dropLast := by
  rw [List.dropLast_eq_take, List.dropLast_eq_take, r.length]
  exact r.take _
theorem mt_app : MtR X "list.append" (rM X.K appT) := MtR.imp mt_append fun x xs H Q h => by
  obtain ⟨G, p, t, ts, t', u, rfl, l, n, ow, rs, e, k⟩ := h
  cases ow with
  | lst hp rl =>
    cases rs with
    | nil => cases e
    | cons a b =>
      cases b with
      | nil =>
        simp only [appT] at e
        split at e
        · rename_i hl
          cases e
          refine ⟨p, _, _, rfl, rfl, hp, by rw [rl.length]; exact hl, k _ _ (fun q ne => upd_ne ne) (.lst upd_same (rl.app (.one a))) .non⟩
        · cases e
      | cons _ _ => cases e
  | _ => cases e
theorem mt_ext : MtR X "list.extend" (rM X.K extT) := by
  intro pins s σ H x xs v us Q I rx rv h
  obtain ⟨G, p, t, ts, t', u, rfl, l, n, ow, rs, e, k⟩ := h
  cases ow with
  | lst hp rl =>
    cases rs with
    | nil => cases e
    | cons a b =>
      cases b with
      | cons _ _ => cases a <;> cases e
      | nil =>
        cases a with
        | lst hb rb =>
          simp only [extT] at e
          split at e
          · rename_i hl
            cases e
            cases rx
            obtain ⟨w, rfl, rw'⟩ := rv.one
            cases rw'
            obtain ⟨z, its, n1, r1, hl1, e1⟩ := I.lstM hp
            obtain ⟨z2, its2, n2, r2, e2⟩ := (l.rd _ (.lst _) trivial hb).ok I.hok
            have len1 := rl.length
            have len2 := rb.length
            have hl2 := r2.length
            have hsz : its.toArray.size + its2.toArray.size ≤ sizeLine := by rw [List.size_toArray, List.size_toArray]; omega
            have hlong : ¬ (!its.toArray.isEmpty && Builtin.List.listTooLong (its.toArray.size + its2.toArray.size)) = true := by
              rw [L2.notLongL hsz, Bool.and_false]; exact Bool.false_ne_true
            refine call_meets F.slot_list_extend ⟨_, e1, rfl⟩ F.entry_list_extend (F.args_list_extend_2 _ _)
              (PySem.AutoSeq1.list_extend_list_list_0 p its.toArray n1 _ its2.toArray n2 hlong (by rw [List.size_toArray]; omega) (by omega)) ⟨e1, e2, ?_⟩
            refine ⟨.non, _, I.lset (its' := its ++ its2) hp e1 (by simp) (r1.append r2) ?_, rfl, k _ _ (fun q ne => upd_ne ne) (.lst upd_same (rl.app rb)) .non⟩
            rw [List.length_append]; omega
          · cases e
        | _ => cases e
  | _ => cases e
theorem mt_pop0 : MtR X "list.pop" (rM X.K popT) := MtR.imp mt_pop fun x xs H Q h => by
  obtain ⟨G, p, t, ts, t', u, rfl, l, n, ow, rs, e, k⟩ := h
  cases ow with
  | lst hp rl =>
    cases rs with
    | cons _ _ => cases e
    | nil =>
      simp only [popT] at e
      split at e
      · rename_i y hy
        cases e
        obtain ⟨w, ew, rw'⟩ := rl.get hy
        refine ⟨p, _, w, rfl, rfl, hp, by rw [rl.length]; exact ew, k _ _ (fun q ne => upd_ne ne) (.lst upd_same (dropLast_rels rl)) rw'⟩
      · cases e
  | _ => cases e
theorem mt_pop1 : MtR X "list.pop" (rM X.K popAtT) := MtR.imp mt_popAt fun x xs H Q h => by
  obtain ⟨G, p, t, ts, t', u, rfl, l, n, ow, rs, e, k⟩ := h
  cases ow with
  | lst hp rl =>
    cases rs with
    | nil => cases e
    | cons a b =>
      cases b with
      | cons _ _ => cases a <;> cases e
      | nil =>
        cases a with
        | int i =>
          simp only [popAtT] at e
          split at e
          · rename_i hb
            split at e
            · rename_i j hj
              split at e
              · rename_i y hy
                cases e
                obtain ⟨w, ew, rw'⟩ := rl.get hy
                refine ⟨p, _, i, j, w, rfl, rfl, hp, hb.1, hb.2, ?_, ew, k _ _ (fun q ne => upd_ne ne) (.lst upd_same (rl.eraseIdx j)) rw'⟩
                rw [rl.length]
                exact (ixN_seq hj).1
              · cases e
            · cases e
          · cases e
        | _ => cases e
  | _ => cases e
theorem mt_ins : MtR X "list.insert" (rM X.K insT) := MtR.imp mt_insert fun x xs H Q h => by
  obtain ⟨G, p, t, ts, t', u, rfl, l, n, ow, rs, e, k⟩ := h
  cases ow with
  | lst hp rl =>
    cases rs with
    | nil => cases e
    | cons a b =>
      cases b with
      | nil => cases a <;> cases e
      | cons a2 b2 =>
        cases b2 with
        | cons _ _ => cases a <;> cases e
        | nil =>
          cases a with
          | int i =>
            simp only [insT] at e
            split at e
            · rename_i hb
              cases e
              refine ⟨p, _, i, _, rfl, rfl, hp, by rw [rl.length]; exact hb.1, hb.2.1, hb.2.2, k _ _ (fun q ne => upd_ne ne) (.lst upd_same (((rl.take _).app (.one a2)).app (rl.drop _))) .non⟩
            · cases e
          | _ => cases e
  | _ => cases e
end

/-! ### dicts -/
def kFind {κ : Type} [DecidableEq κ] (f : T → Option κ) (k : κ) : List (T × T) → Option T
  | [] => none
  | (a, t) :: r => if f a = some k then some t else kFind f k r
def kSet {κ : Type} [DecidableEq κ] (f : T → Option κ) (k : κ) (v : T) : List (T × T) → List (T × T)
  | [] => []
  | (a, t) :: r => (if f a = some k then (a, v) else (a, t)) :: kSet f k v r
def kPut {κ : Type} [DecidableEq κ] (f : T → Option κ) (kt : T) (k : κ) (v : T) (kvs : List (T × T)) : List (T × T) :=
  if (kFind f k kvs).isSome then kSet f k v kvs else kvs ++ [(kt, v)]
theorem kPut_ne {κ : Type} [DecidableEq κ] {f : T → Option κ} {kt : T} {k : κ} {v : T} {kvs : List (T × T)} : kPut f kt k v kvs ≠ [] := by
  unfold kPut
  split
  · rename_i h
    cases kvs with
    | nil => simp [kFind] at h
    | cons p r =>
      cases p
      unfold kSet
      first
        | simp
        | (split <;> simp)
        | (split <;> split <;> simp)
  · simp
def isT : T → Bool
  | .tuple _ => true
  | _ => false
/-- may k be looked for there? what is found -/
def dFind (kvs : List (T × T)) (k : T) : Option (Option T) :=
  match kOf k with
  | some k' => if (kvs.all fun p => !isT p.1) then some (kFind kOf k' kvs) else none
  | none => match ktOf k with
    | some k' => if (kvs.all fun p => isT p.1) then some (kFind ktOf k' kvs) else none
    | none => none
def dPut (kvs : List (T × T)) (k v : T) : Option (List (T × T)) :=
  match kOf k with
  | some k' => if (kvs.all fun p => !isT p.1) ∧ kvs.length < sizeLine then some (kPut kOf k k' v kvs) else none
  | none => match ktOf k with
    | some k' => if (kvs.all fun p => isT p.1) ∧ kvs.length < sizeLine then some (kPut ktOf k k' v kvs) else none
    | none => none
theorem kOf_not {k : T} {k' : Key} (h : kOf k = some k') : isT k = false := by cases k <;> first | rfl | cases h
theorem ktOf_is {k : T} {k' : List Key} (h : ktOf k = some k') : isT k = true := by cases k <;> first | rfl | cases h
section
variable {K : Fg} {G H : Hp}
theorem Rel.kOf {k : T} {k' : Key} {v : V} (h : TL.kOf k = some k') (r : Rel K G k v) : v = kV k' := by
  cases r <;> cases h <;> rfl
theorem Rels.ksOf : ∀ {ts : List T} {vs : List V} {ks : List Key}, TL.ksOf ts = some ks → Rels K G ts vs → vs = ks.map kV
  | _, _, _, h, .nil => by cases h; rfl
  | _, _, ks, h, .cons a b => by
    simp only [TL.ksOf] at h
    split at h
    · rename_i k hk
      split at h
      · rename_i ks' hks
        cases h
        rw [Rel.kOf hk a, Rels.ksOf hks b]
        rfl
      · cases h
    · cases h
theorem Rel.ktOf {k : T} {k' : List Key} {v : V} (h : TL.ktOf k = some k') (r : Rel K G k v) : ∃ b, v = .ref b ∧ G b = some (.tup (k'.map kV)) := by
  cases r with
  | tup e rs => exact ⟨_, rfl, by rw [e, Rels.ksOf h rs]⟩
  | _ => cases h
theorem RelK.find {k : Key} : ∀ {ts : List (T × T)} {kk : List (Key × V)}, RelK K G ts kk → ((∀ t, kFind TL.kOf k ts = some t → ∃ v, valV kk k = some v ∧ Rel K G t v) ∧ (kFind TL.kOf k ts = none → valV kk k = none))
  | _, _, .nil => ⟨fun t h => (nomatch h), fun _ => rfl⟩
  | _, _, @RelK.cons _ _ a t k' v ts vs e r rest => by
    obtain ⟨h1, h2⟩ := RelK.find (k := k) rest
    by_cases hk : k' = k
    · subst hk
      refine ⟨fun t' h => ?_, fun h => ?_⟩
      · simp only [kFind, e, if_true] at h
        cases h
        exact ⟨v, valV_pos rfl, r⟩
      · simp only [kFind, e, if_true] at h
        cases h
    · have hn : ¬ (some k' = some k) := fun z => hk (Option.some.inj z)
      refine ⟨fun t' h => ?_, fun h => ?_⟩
      · simp only [kFind, e, if_neg hn] at h
        obtain ⟨w, a, b⟩ := h1 t' h
        exact ⟨w, by rw [valV_neg hk]; exact a, b⟩
      · simp only [kFind, e, if_neg hn] at h
        rw [valV_neg hk]; exact h2 h
theorem RelT.find {k : List Key} : ∀ {ts : List (T × T)} {kk : List (List Key × V)}, RelT K G ts kk → ((∀ t, kFind TL.ktOf k ts = some t → ∃ v, valV kk k = some v ∧ Rel K G t v) ∧ (kFind TL.ktOf k ts = none → valV kk k = none))
  | _, _, .nil => ⟨fun t h => (nomatch h), fun _ => rfl⟩
  | _, _, @RelT.cons _ _ a t k' v ts vs e r rest => by
    obtain ⟨h1, h2⟩ := RelT.find (k := k) rest
    by_cases hk : k' = k
    · subst hk
      refine ⟨fun t' h => ?_, fun h => ?_⟩
      · simp only [kFind, e, if_true] at h
        cases h
        exact ⟨v, valV_pos rfl, r⟩
      · simp only [kFind, e, if_true] at h
        cases h
    · have hn : ¬ (some k' = some k) := fun z => hk (Option.some.inj z)
      refine ⟨fun t' h => ?_, fun h => ?_⟩
      · simp only [kFind, e, if_neg hn] at h
        obtain ⟨w, a, b⟩ := h1 t' h
        exact ⟨w, by rw [valV_neg hk]; exact a, b⟩
      · simp only [kFind, e, if_neg hn] at h
        rw [valV_neg hk]; exact h2 h
theorem RelK.mem {k : Key} : ∀ {ts : List (T × T)} {kk : List (Key × V)}, RelK K G ts kk → ((kFind TL.kOf k ts).isSome = (valV kk k).isSome) := fun {ts kk} r => by
  cases h : kFind TL.kOf k ts with
  | none => rw [r.find.2 h]; rfl
  | some t =>
    obtain ⟨v, e, _⟩ := r.find.1 t h
    rw [e]; rfl
theorem RelT.mem {k : List Key} : ∀ {ts : List (T × T)} {kk : List (List Key × V)}, RelT K G ts kk → ((kFind TL.ktOf k ts).isSome = (valV kk k).isSome) := fun {ts kk} r => by
  cases h : kFind TL.ktOf k ts with
  | none => rw [r.find.2 h]; rfl
  | some t =>
    obtain ⟨v, e, _⟩ := r.find.1 t h
    rw [e]; rfl
theorem putK_eq {κ : Type} [DecidableEq κ] (r : List (κ × V)) (k : κ) (v : V) : putK r k v = if (valV r k).isSome = true then r.map (fun kv => if kv.1 = k then (kv.1, v) else kv) else r ++ [(k, v)] := by
  unfold putK; rw [valV_any]
theorem RelK.sets {k : Key} {t : T} {v : V} (q : Rel K G t v) : ∀ {ts : List (T × T)} {kk : List (Key × V)}, RelK K G ts kk → RelK K G (kSet TL.kOf k t ts) (kk.map (fun kv => if kv.1 = k then (kv.1, v) else kv))
  | _, _, .nil => .nil
  | _, _, @RelK.cons _ _ a t' k' v' ts vs e r rest => by
    rw [List.map_cons]
    simp only [kSet, e]
    by_cases hk : k' = k
    · subst hk
      rw [if_pos rfl, if_pos rfl]
      exact .cons e q (RelK.sets q rest)
    · rw [if_neg (fun z => hk (Option.some.inj z)), if_neg hk]
      exact .cons e r (RelK.sets q rest)
theorem RelT.sets {k : List Key} {t : T} {v : V} (q : Rel K G t v) : ∀ {ts : List (T × T)} {kk : List (List Key × V)}, RelT K G ts kk → RelT K G (kSet TL.ktOf k t ts) (kk.map (fun kv => if kv.1 = k then (kv.1, v) else kv))
  | _, _, .nil => .nil
  | _, _, @RelT.cons _ _ a t' k' v' ts vs e r rest => by
    rw [List.map_cons]
    simp only [kSet, e]
    by_cases hk : k' = k
    · subst hk
      rw [if_pos rfl, if_pos rfl]
      exact .cons e q (RelT.sets q rest)
    · rw [if_neg (fun z => hk (Option.some.inj z)), if_neg hk]
      exact .cons e r (RelT.sets q rest)
theorem RelK.app : ∀ {ts us : List (T × T)} {kk ll : List (Key × V)}, RelK K G ts kk → RelK K G us ll → RelK K G (ts ++ us) (kk ++ ll)
  | _, _, _, _, .nil, s => s
  | _, _, _, _, .cons e r rest, s => .cons e r (RelK.app rest s)
theorem RelT.app : ∀ {ts us : List (T × T)} {kk ll : List (List Key × V)}, RelT K G ts kk → RelT K G us ll → RelT K G (ts ++ us) (kk ++ ll)
  | _, _, _, _, .nil, s => s
  | _, _, _, _, .cons e r rest, s => .cons e r (RelT.app rest s)
theorem RelK.put {k : Key} {kt t : T} {v : V} {ts : List (T × T)} {kk : List (Key × V)} (ek : TL.kOf kt = some k) (q : Rel K G t v) (r : RelK K G ts kk) : RelK K G (kPut TL.kOf kt k t ts) (putK kk k v) := by
  unfold kPut
  rw [putK_eq, r.mem]
  by_cases h : (valV kk k).isSome = true
  · rw [if_pos h, if_pos h]; exact r.sets q
  · rw [if_neg h, if_neg h]; exact r.app (.cons ek q .nil)
theorem RelT.put {k : List Key} {kt t : T} {v : V} {ts : List (T × T)} {kk : List (List Key × V)} (ek : TL.ktOf kt = some k) (q : Rel K G t v) (r : RelT K G ts kk) : RelT K G (kPut TL.ktOf kt k t ts) (putK kk k v) := by
  unfold kPut
  rw [putK_eq, r.mem]
  by_cases h : (valV kk k).isSome = true
  · rw [if_pos h, if_pos h]; exact r.sets q
  · rw [if_neg h, if_neg h]; exact r.app (.cons ek q .nil)
theorem RelK.length : ∀ {ts : List (T × T)} {kk : List (Key × V)}, RelK K G ts kk → kk.length = ts.length
  | _, _, .nil => rfl
  | _, _, .cons _ _ r => by rw [List.length_cons, List.length_cons, RelK.length r]
theorem RelT.length : ∀ {ts : List (T × T)} {kk : List (List Key × V)}, RelT K G ts kk → kk.length = ts.length
  | _, _, .nil => rfl
  | _, _, .cons _ _ r => by rw [List.length_cons, List.length_cons, RelT.length r]
theorem RelK.noT : ∀ {ts : List (T × T)} {kk : List (Key × V)}, RelK K G ts kk → (ts.all fun p => isT p.1) = true → ts = [] ∧ kk = []
  | _, _, .nil, _ => ⟨rfl, rfl⟩
  | _, _, .cons e _ _, h => by
    rw [List.all_cons, kOf_not e] at h; cases h
theorem RelT.noK : ∀ {ts : List (T × T)} {kk : List (List Key × V)}, RelT K G ts kk → (ts.all fun p => !isT p.1) = true → ts = [] ∧ kk = []
  | _, _, .nil, _ => ⟨rfl, rfl⟩
  | _, _, .cons e _ _, h => by
    rw [List.all_cons, ktOf_is e] at h; cases h
end
/-! the empty dict takes either kind of keys -/
section
variable {X : Cx} {pins : List (Addr × Obj)} {σ : L2.St} {H : Hp} {s : Shared} {a b : Addr} {y : V} {o : Option V}
theorem inv_swap {o u : HO} (I : Inv X pins σ H s) (e : H a = some o) (mo : Mut (some o)) (ge : ∃ q, s.heap.get? a = some q) (new : ObjOk X.prog X.w (upd H a u) s.heap a u) : Inv X pins σ (upd H a u) s :=
  I.write (x := a) (e := a) (h' := s.heap) (t' := s.toks) (by rw [e]; exact mo) (.inl rfl) (fun _ _ _ q => q) ge new
theorem flip_h (I : Inv X pins σ H s) (e : Rd H a (.dK [])) : (a == sysModules) = false ∧ s.heap.DictOfH (tupleKind (mixKind X.prog X.w)) a [] := by
  obtain ⟨z, hd, vs, rel, ob, es, ep, h1, h2, h3, h4, h5, h6⟩ := dk_rd I.hok e
  cases rel
  refine ⟨hd, ob, es, ep, h1, h2, h3, ?_, fun x hx => (nomatch hx), .nil⟩
  cases h5' : es.toList with
  | nil => rfl
  | cons q r => rw [h5'] at h5; cases h5
theorem flip_k (I : Inv X pins σ H s) (e : Rd H a (.dT [])) : (a == sysModules) = false ∧ s.heap.DictOf (mixKind X.prog X.w) a [] := by
  obtain ⟨z, hd, xs, rel, ob, es, ep, h1, h2, h3, h4, _, h5⟩ := dt_rd I.hok e
  cases rel
  have e0 : es.toList = [] := h4
  have e1 : es = #[] := Array.toList_eq_nil_iff.mp e0
  refine ⟨hd, ob, es, ep, h1, h2, h3, fun q hq => ?_, ?_, .nil⟩
  · rw [e1] at hq; simp at hq
  · rw [e0]; exact .nil
theorem swap_kt (I : Inv X pins σ H s) (e : H a = some (.dK [])) : Inv X pins σ (upd H a (.dT [])) s := by
  obtain ⟨z, hd, _⟩ := dk_of I.hok e
  obtain ⟨_, ob, es, ep, h1, h2, h3, h4, _, h5⟩ := flip_h I (.inl e)
  exact inv_swap I e trivial ⟨_, h1⟩ ⟨z, hd, [], .nil, ob, es, ep, h1, h2, h3, h4, .nil⟩
theorem swap_tk (I : Inv X pins σ H s) (e : H a = some (.dT [])) : Inv X pins σ (upd H a (.dK [])) s := by
  obtain ⟨z, hd, _⟩ := dt_of I.hok e
  have q := flip_k I (.inl e)
  obtain ⟨ob, es, ep, h1, r⟩ := q.2
  exact inv_swap I e trivial ⟨_, h1⟩ ⟨z, hd, [], .nil, ob, es, ep, h1, r⟩
/-- what is found, of either kind -/
def DG (H : Hp) (a : Addr) (y : V) (o : Option V) : Prop := DGet H a y o ∨ (o = none ∧ ((Rd H a (.dK []) ∧ ∃ (b : Addr) (k : List Key), y = .ref b ∧ H b = some (.tup (k.map kV))) ∨ (Rd H a (.dT []) ∧ ∃ k, y = kV k)))
variable {A : Around} {E : Value → Shared → Prop} {u : Value}
theorem dg_in {Q : Value → Shared → Prop} (hu : A.units + 1 < cLine) (I : Inv X pins σ H s) (g : DG H a y o) (ry : RelV y u) (h : ∀ s', Inv X pins σ H s' → Q (.bool o.isSome) s') :
    wpAny (model X.prog X.w) A (compareOp .In u (.ref a)) Q E s := by
  rcases g with g | ⟨eo, ⟨e, b, k, ey, eb⟩ | ⟨e, k, ey⟩⟩
  · exact d_in hu I g ry h
  · subst ey; subst eo
    cases (show u = Value.ref b from ry)
    obtain ⟨hd, dd⟩ := flip_h I e
    exact wpAny_in_heap (tupleKind_room_in1 hu) (key_of I.hok eb) hd dd (h _ (I.tok _))
  · subst ey; subst eo
    obtain ⟨hd, dd⟩ := flip_k I e
    exact wpAny_in_of (kV_is ry) hd dd.mapOf (h _ (I.tok _))
theorem dg_notIn {Q : Value → Shared → Prop} (hu : A.units + 1 < cLine) (I : Inv X pins σ H s) (g : DG H a y o) (ry : RelV y u) (h : ∀ s', Inv X pins σ H s' → Q (.bool (!o.isSome)) s') :
    wpAny (model X.prog X.w) A (compareOp .NotIn u (.ref a)) Q E s := by
  rcases g with g | ⟨eo, ⟨e, b, k, ey, eb⟩ | ⟨e, k, ey⟩⟩
  · exact d_notIn hu I g ry h
  · subst ey; subst eo
    cases (show u = Value.ref b from ry)
    obtain ⟨hd, dd⟩ := flip_h I e
    exact PyProof.Rows.wpAny_notIn_heap (tupleKind_room_in1 hu) (key_of I.hok eb) hd dd (h _ (I.tok _))
  · subst ey; subst eo
    obtain ⟨hd, dd⟩ := flip_k I e
    exact wpAny_notIn_of (kV_is ry) hd dd.mapOf (h _ (I.tok _))
theorem dg_get1 {Q : Value → Shared → Prop} (hu : A.units + 1 < cLine) (I : Inv X pins σ H s) (g : DG H a y o) (ry : RelV y u) (h : ∀ w' s', Inv X pins σ H s' → RelV (o.getD .non) w' → Q w' s') :
    wpAny (model X.prog X.w) A (call (.builtin "dict.get") [.ref a, u]) Q E s := by
  rcases g with g | ⟨eo, ⟨e, b, k, ey, eb⟩ | ⟨e, k, ey⟩⟩
  · exact d_get1 hu I g ry h
  · subst ey; subst eo
    cases (show u = Value.ref b from ry)
    obtain ⟨hd, dd⟩ := flip_h I e
    exact call_meetsIn PySem.F.slot_dict_get dd.typeIs PySem.F.entry_dict_get (PySem.F.args_dict_get_2 _ _) (meetsH_dict_get (tupleKind (mixKind X.prog X.w)) a b hd) ⟨tupleKind_room_in1 hu, k, [], key_of I.hok eb, dd, h _ _ (I.tok _) rfl⟩
  · subst ey; subst eo
    obtain ⟨hd, dd⟩ := flip_k I e
    exact call_meetsIn PySem.F.slot_dict_get dd.typeIs PySem.F.entry_dict_get (PySem.F.args_dict_get_2 _ _) (meets_dict_get (mixKind X.prog X.w) a (kV_is ry) hd) ⟨_, dd.mapOf, h _ _ (I.tok _) rfl⟩
theorem dg_get2 {d : V} {r : Value} {Q : Value → Shared → Prop} (hu : A.units + 1 < cLine) (I : Inv X pins σ H s) (g : DG H a y o) (ry : RelV y u) (rd : RelV d r) (h : ∀ w' s', Inv X pins σ H s' → RelV (o.getD d) w' → Q w' s') :
    wpAny (model X.prog X.w) A (call (.builtin "dict.get") [.ref a, u, r]) Q E s := by
  rcases g with g | ⟨eo, ⟨e, b, k, ey, eb⟩ | ⟨e, k, ey⟩⟩
  · exact d_get2 hu I g ry rd h
  · subst ey; subst eo
    cases (show u = Value.ref b from ry)
    obtain ⟨hd, dd⟩ := flip_h I e
    exact call_meetsIn PySem.F.slot_dict_get dd.typeIs PySem.F.entry_dict_get (PySem.F.args_dict_get_3 _ _ _) (meetsH_dict_get_default (tupleKind (mixKind X.prog X.w)) a b hd r) ⟨tupleKind_room_in1 hu, k, [], key_of I.hok eb, dd, h _ _ (I.tok _) rd⟩
  · subst ey; subst eo
    obtain ⟨hd, dd⟩ := flip_k I e
    exact call_meetsIn PySem.F.slot_dict_get dd.typeIs PySem.F.entry_dict_get (PySem.F.args_dict_get_3 _ _ _) (meets_dict_get_default (mixKind X.prog X.w) a (kV_is ry) hd r) ⟨_, dd.mapOf, h _ _ (I.tok _) rd⟩
end
section
variable {K : Fg} {G H : Hp} {kvs : List (T × T)} {k : T} {x y : V} {o : Option T}
theorem Peek.flat {t : T} {v : V} (h : isT t = true ∨ ∃ k', TL.kOf t = some k') (p : Peek K G H t v) : Rel K G t v := by
  cases p with
  | fz r => exact r
  | ow o => cases o <;> rcases h with h | ⟨_, h⟩ <;> cases h
theorem Peek.dict (l : Le G H) : Peek K G H (.dict kvs) x → ∃ a, x = .ref a ∧ ((∃ kk, Rd H a (.dK kk) ∧ RelK K G kvs kk) ∨ ∃ kk, Rd H a (.dT kk) ∧ RelT K G kvs kk)
  | .fz (.dk h r) => ⟨_, rfl, .inl ⟨_, l.rd _ _ trivial h, r⟩⟩
  | .fz (.dt h r _) => ⟨_, rfl, .inr ⟨_, l.rd _ _ trivial h, r⟩⟩
  | .ow (.dk h r) => ⟨_, rfl, .inl ⟨_, .inl h, r⟩⟩
  | .ow (.dt h r _) => ⟨_, rfl, .inr ⟨_, .inl h, r⟩⟩
def Got (K : Fg) (G : Hp) : Option T → Option V → Prop
  | none, o => o = none
  | some t, o => ∃ v, o = some v ∧ Rel K G t v
theorem Got.some_iff {o : Option T} {ov : Option V} (h : Got K G o ov) : ov.isSome = o.isSome := by
  cases o with
  | none => rw [show ov = none from h]; rfl
  | some t => obtain ⟨v, e, _⟩ := h; rw [e]; rfl
theorem peek_dg (l : Le G H) (pd : Peek K G H (.dict kvs) x) (pk : Peek K G H k y) (e : dFind kvs k = some o) : ∃ a ov, x = .ref a ∧ DG H a y ov ∧ IsD H a ∧ Got K G o ov := by
  obtain ⟨a, rfl, hd⟩ := pd.dict l
  have isd : IsD H a := by
    rcases hd with ⟨kk, h, _⟩ | ⟨kk, h, _⟩
    · exact .inl ⟨kk, h⟩
    · exact .inr ⟨kk, h⟩
  simp only [dFind] at e
  split at e
  · rename_i k' hk
    split at e
    · rename_i hall
      cases e
      have ey := Rel.kOf hk (pk.flat (.inr ⟨k', hk⟩))
      subst ey
      rcases hd with ⟨kk, h, r⟩ | ⟨kk, h, r⟩
      · refine ⟨a, valV kk k', rfl, .inl (.inl ⟨kk, k', h, rfl, rfl⟩), isd, ?_⟩
        cases hf : kFind TL.kOf k' kvs with
        | none => exact r.find.2 hf
        | some t => exact r.find.1 t hf
      · obtain ⟨e1, e2⟩ := r.noK hall
        subst e1; subst e2
        exact ⟨a, none, rfl, .inr ⟨rfl, .inr ⟨h, k', rfl⟩⟩, isd, rfl⟩
    · cases e
  · split at e
    · rename_i k' hk
      split at e
      · rename_i hall
        cases e
        obtain ⟨b, ey, eb⟩ := Rel.ktOf hk (pk.flat (.inl (ktOf_is hk)))
        subst ey
        have eb := l.tp _ _ eb
        rcases hd with ⟨kk, h, r⟩ | ⟨kk, h, r⟩
        · obtain ⟨e1, e2⟩ := r.noT hall
          subst e1; subst e2
          exact ⟨a, none, rfl, .inr ⟨rfl, .inl ⟨h, b, k', rfl, eb⟩⟩, isd, rfl⟩
        · refine ⟨a, valV kk k', rfl, .inl (.inr ⟨kk, k', b, h, rfl, eb, rfl⟩), isd, ?_⟩
          cases hf : kFind TL.ktOf k' kvs with
          | none => exact r.find.2 hf
          | some t => exact r.find.1 t hf
      · cases e
    · cases e
end
/-! a test, an item, get -/
def dInT : T → T → Option Out
  | k, .dict kvs => match dFind kvs k with
    | some o => some (.fz (.bool o.isSome))
    | none => none
  | _, _ => none
def dNotInT : T → T → Option Out
  | k, .dict kvs => match dFind kvs k with
    | some o => some (.fz (.bool (!o.isSome)))
    | none => none
  | _, _ => none
def dGetT : T → T → Option Out
  | .dict kvs, k => match dFind kvs k with
    | some (some t) => some (.fz t)
    | _ => none
  | _, _ => none
section
variable {X : Cx}
theorem op_din (hu : X.A.units + 1 < cLine) : OpR X (compareOp .In) (r2T X.K dInT) := by
  intro pins s σ H x y v u Q I rx ry h
  obtain ⟨G, a, b, o, l, pa, pb, e, k⟩ := h
  cases b with
  | dict kvs =>
    simp only [dInT] at e
    split at e
    · rename_i ot hf
      cases e
      obtain ⟨ad, ov, rfl, g, _, got⟩ := peek_dg l pb pa hf
      cases ry
      refine dg_in hu I g rx fun s' I' => ⟨.bl ov.isSome, H, I', rfl, ?_⟩
      rw [got.some_iff]
      exact k G H _ (.refl l) (.bl _)
    · cases e
  | _ => cases e
theorem op_dnotIn (hu : X.A.units + 1 < cLine) : OpR X (compareOp .NotIn) (r2T X.K dNotInT) := by
  intro pins s σ H x y v u Q I rx ry h
  obtain ⟨G, a, b, o, l, pa, pb, e, k⟩ := h
  cases b with
  | dict kvs =>
    simp only [dNotInT] at e
    split at e
    · rename_i ot hf
      cases e
      obtain ⟨ad, ov, rfl, g, _, got⟩ := peek_dg l pb pa hf
      cases ry
      refine dg_notIn hu I g rx fun s' I' => ⟨.bl (!ov.isSome), H, I', rfl, ?_⟩
      rw [got.some_iff]
      exact k G H _ (.refl l) (.bl _)
    · cases e
  | _ => cases e
theorem ix_dict (hu : X.A.units + 1 < cLine) : IxR X (r2T X.K dGetT) := by
  intro value slice pins s σ H x y v u Q I rx ry h hs
  obtain ⟨G, a, b, o, l, pa, pb, e, k⟩ := h
  cases a with
  | dict kvs =>
    simp only [dGetT] at e
    split at e
    · rename_i t hf
      cases e
      obtain ⟨ad, ov, rfl, g, _, got⟩ := peek_dg l pa pb hf
      obtain ⟨w, eo, rw'⟩ := got
      subst eo
      have g : DGet H ad y (some w) := g.resolve_right fun z => nomatch z.1
      cases rx
      refine PyProof.Rows.tail_any (dict_typeIs I g) PySem.F.slot_dict_getitem.lookup (d_getItem hu I g ry fun w' s' I' rv => ⟨w, H, I', rv, k G H _ (.refl l) rw'⟩) hs
    · cases e
  | _ => cases e
end
end TL
namespace TL
open PySem PySem.Spec L2
open PyProof.Rows (envOfC)

/-! ### several names at once -/
def mKeep (m : ME) : ME := fun cs => match m cs with
  | some (.sl i, cs1) => match frz (.sl i) cs1 with
    | some (t, cs2) => some (.fz t, cs2)
    | none => none
  | o => o
/-- a result that is no slot -/
def cellR : Rs → Option Cell
  | .fz t => some (.fz t)
  | .nw t => some (.ow t)
  | .sl _ => none
def put1 (i : Nat) (r : Rs) (cs : Cs) : Option Cs := match cs[i]? with
  | some (.bo _) => none
  | none => none
  | some _ => match cellR r with
    | some c => some (cs.set i c)
    | none => none
section
variable {K : Fg} {σ0 σ : L2.St} {G0 H0 G H : Hp} {cs0 cs cs1 : Cs} {r r2 : Rs} {v w : V} {i : Nat} {m : ME} {Q : VK}
theorem imp_keep (h : tS K (mKeep m) σ H Q) : tS K m σ H Q := by
  obtain ⟨G, cs, R, r, cs', e, k⟩ := h
  simp only [mKeep] at e
  split at e
  · rename_i j cs1 h1
    split at e
    · rename_i t cs2 h2
      cases e
      refine ⟨G, cs, R, _, cs1, h1, fun G1 H1 v f R1 ok y => ?_⟩
      obtain ⟨G2, f2, R2, rel⟩ := frz_ok f R1 ok y h2
      exact k G2 H1 v f2 R2 rel trivial
    · cases e
  · exact ⟨G, cs, R, r, cs', e, k⟩
theorem put1_ok (f : Fr σ0 G0 H0 cs0 σ G H cs) (R : SR K G H cs σ) (ok : RsOk K G H cs σ r v) (y : Young H0 r v) (e : put1 i r cs = some cs1) :
    Fr σ0 G0 H0 cs0 (σ.set i (some v)) G H cs1 ∧ SR K G H cs1 (σ.set i (some v)) := by
  simp only [put1] at e
  split at e
  · cases e
  · cases e
  · rename_i c0 hn hc
    split at e
    · rename_i c hcr
      cases e
      have hi : i < cs.length := lt_of_get hc
      have hs : i < σ.length := by rw [← R.len]; exact hi
      have hb : ∀ u, cs[i]? ≠ some (Cell.bo u) := fun u z => by
        rw [hc] at z; cases z
        exact hn u rfl
      have nb : ∀ u, c ≠ Cell.bo u := fun u z => by cases r <;> cases hcr <;> cases z
      have oc : ∀ {j : Nat} {u : T}, OwC (cs.set i c) j u → (j = i ∧ c = .ow u) ∨ (j ≠ i ∧ OwC cs j u) := fun {j u} h => by
        rcases oc_set hi h with ⟨e, h | h⟩ | h
        · exact .inl ⟨e, h⟩
        · exact absurd h (nb u)
        · exact .inr h
      have ow : ∀ {u : T}, c = .ow u → ∃ p, v = .ref p ∧ G p = none ∧ Own K G H u p ∧ ¬ OwnAt cs σ p ∧ H0 p = none := fun {u} h => by
        cases r with
        | fz t => cases hcr; cases h
        | sl j => cases hcr
        | nw t =>
          cases hcr; cases h
          obtain ⟨p, e, a, b, d⟩ := ok
          exact ⟨p, e, a, b, d, y p e⟩
      refine ⟨⟨f.g, f.keep, f.gfr, fun p ⟨j, u, a, b⟩ => ?_, f.hmo, fun j u e => ?_, fun j u e => ?_⟩, ⟨R.le, by rw [List.length_set, List.length_set]; exact R.len, fun j u e => ?_, fun j u e => ?_, fun j k u w q a b ea eb => ?_⟩⟩
      · rcases oc a with ⟨ej, h⟩ | ⟨ne, a⟩
        · obtain ⟨q, ev, _, _, _, h0⟩ := ow h
          rw [ej, set_self hs, ev] at b; cases b
          exact .inr h0
        · rw [set_other ne] at b
          exact f.own p ⟨j, u, a, b⟩
      · obtain ⟨t', e1, e2⟩ := f.bo j u e
        have ne : j ≠ i := by rintro rfl; exact hb _ e1
        exact ⟨t', by rw [set_other ne]; exact e1, by rw [set_other ne]; exact e2⟩
      · have ne : j ≠ i := by
          rintro rfl
          rw [set_self hi] at e; exact nb u (Option.some.inj e)
        rw [set_other ne] at e
        exact f.bo' j u e
      · by_cases ne : j = i
        · subst ne
          rw [set_self hi] at e; cases e
          cases r with
          | fz t => cases hcr; exact ⟨v, set_self hs, ok⟩
          | nw t => cases hcr
          | sl j => cases hcr
        · rw [set_other ne] at e ⊢
          exact R.fz j u e
      · rcases oc e with ⟨ej, h⟩ | ⟨ne, e⟩
        · obtain ⟨q, ev, a, b, _⟩ := ow h
          exact ⟨q, by rw [ej, set_self hs, ev], a, b⟩
        · rw [set_other ne]
          exact R.ow j u e
      · rcases oc a with ⟨ej, ha⟩ | ⟨n1, a1⟩
        · rcases oc b with ⟨ek, _⟩ | ⟨n2, b1⟩
          · rw [ej, ek]
          · obtain ⟨q', ev, _, _, no, _⟩ := ow ha
            rw [ej, set_self hs, ev] at ea; cases ea
            rw [set_other n2] at eb
            exact absurd ⟨k, w, b1, eb⟩ no
        · rcases oc b with ⟨ek, hb'⟩ | ⟨n2, b1⟩
          · obtain ⟨q', ev, _, _, no, _⟩ := ow hb'
            rw [ek, set_self hs, ev] at eb; cases eb
            rw [set_other n1] at ea
            exact absurd ⟨j, u, a1, ea⟩ no
          · rw [set_other n1] at ea
            rw [set_other n2] at eb
            exact R.apart j k u w q a1 b1 ea eb
    · cases e
/-- two new objects stand apart -/
def Dis (r : Rs) (v : V) (r2 : Rs) (w : V) : Prop := ∀ t t' p, r = .nw t → r2 = .nw t' → v = .ref p → w = .ref p → False
theorem dis_of {H1 : Hp} (ok : RsOk K G H1 cs σ r v) (y : Young H1 r2 w) : Dis r v r2 w := fun t t' p e1 e2 ev ew => by
  subst e1; subst e2
  obtain ⟨q, e, _, o, _⟩ := ok
  rw [ev] at e; cases e
  exact o.ne (y p ew)
theorem RsOk.put1 (R : SR K G H cs σ) (d : Dis r v r2 w) (ok : RsOk K G H cs σ r v) (ok2 : RsOk K G H cs σ r2 w) (h2 : (cellR r2).isSome) (e : TL.put1 i r cs = some cs1) : RsOk K G H cs1 (σ.set i (some v)) r2 w := by
  cases r2 with
  | fz t => exact ok2
  | sl j => cases h2
  | nw t =>
    obtain ⟨p, rfl, n, o, no⟩ := ok2
    refine ⟨p, rfl, n, o, fun ⟨j, u, a, b⟩ => ?_⟩
    simp only [TL.put1] at e
    split at e
    · cases e
    · cases e
    · rename_i c0 hn hc
      split at e
      · rename_i c hcr
        cases e
        have hi : i < cs.length := lt_of_get hc
        have hs : i < σ.length := by rw [← R.len]; exact hi
        rcases oc_set hi a with ⟨ej, h⟩ | ⟨ne, a⟩
        · rw [ej, set_self hs] at b; cases b
          cases r with
          | fz t' => cases hcr; rcases h with h | h <;> cases h
          | sl j => cases hcr
          | nw t' => exact d t' t p rfl rfl rfl rfl
        · rw [set_other ne] at b
          exact no ⟨j, u, a, b⟩
      · cases e
end
def sPar (i j : Nat) (ma mb : ME) : MS := fun cs => match mKeep ma cs with
  | some (ra, cs1) => match mKeep mb cs1 with
    | some (rb, cs2) => match put1 i ra cs2 with
      | some cs3 => match put1 j rb cs3 with
        | some cs4 => some (.nx, cs4)
        | none => none
      | none => none
    | none => none
  | none => none
def sPar3 (i j l : Nat) (ma mb mc : ME) : MS := fun cs => match mKeep ma cs with
  | some (ra, cs1) => match mKeep mb cs1 with
    | some (rb, cs2) => match mKeep mc cs2 with
      | some (rc, cs3) => match put1 i ra cs3 with
        | some cs4 => match put1 j rb cs4 with
          | some cs5 => match put1 l rc cs5 with
            | some cs6 => some (.nx, cs6)
            | none => none
          | none => none
        | none => none
      | none => none
    | none => none
  | none => none
section
variable {X : Cx} {K : Fg} {D : Ends} {σ : L2.St} {H : Hp} {ma mb mc : ME} {i j l : Nat}
theorem cellR_of {r : Rs} {cs cs1 : Cs} (e : put1 i r cs = some cs1) : (cellR r).isSome := by
  simp only [put1] at e
  split at e
  · cases e
  · cases e
  · split at e
    · rename_i c hc
      rw [hc]; rfl
    · cases e
theorem imp_par (h : tSt K (sPar i j ma mb) D σ H) : tPar i j (tCons (tS K ma) (tCons (tS K mb) tNil)) D σ H := by
  obtain ⟨G, cs, R, fl, cs', e, k⟩ := h
  simp only [sPar] at e
  split at e
  · rename_i ra cs1 h1
    split at e
    · rename_i rb cs2 h2
      split at e
      · rename_i cs3 h3
        split at e
        · rename_i cs4 h4
          cases e
          refine imp_keep ⟨G, cs, R, ra, cs1, h1, fun G1 H1 v f1 R1 ok1 y1 => imp_keep ⟨G1, cs1, R1, rb, cs2, h2, fun G2 H2 w f2 R2 ok2 y2 => ?_⟩⟩
          refine ⟨v, w, rfl, ?_⟩
          have f12 := f1.trans f2
          have ok1' := ok1.mono f2
          obtain ⟨f3, R3⟩ := put1_ok f12.toFr R2 ok1' y1 h3
          have ok2' := RsOk.put1 R2 (dis_of ok1 y2) ok1' ok2 (cellR_of h4) h3
          obtain ⟨f4, R4⟩ := put1_ok f3 R3 ok2' (y2.up f1) h4
          exact k _ _ _ f4 R4
        · cases e
      · cases e
    · cases e
  · cases e
theorem imp_par3 (h : tSt K (sPar3 i j l ma mb mc) D σ H) : tPar3 i j l (tCons (tS K ma) (tCons (tS K mb) (tCons (tS K mc) tNil))) D σ H := by
  obtain ⟨G, cs, R, fl, cs', e, k⟩ := h
  simp only [sPar3] at e
  split at e
  · rename_i ra cs1 h1
    split at e
    · rename_i rb cs2 h2
      split at e
      · rename_i rc cs3 h3
        split at e
        · rename_i cs4 h4
          split at e
          · rename_i cs5 h5
            split at e
            · rename_i cs6 h6
              cases e
              refine imp_keep ⟨G, cs, R, ra, cs1, h1, fun G1 H1 v f1 R1 ok1 y1 => imp_keep ⟨G1, cs1, R1, rb, cs2, h2, fun G2 H2 w f2 R2 ok2 y2 => imp_keep ⟨G2, cs2, R2, rc, cs3, h3, fun G3 H3 z f3 R3 ok3 y3 => ?_⟩⟩⟩
              refine ⟨v, w, z, rfl, ?_⟩
              have f123 := (f1.trans f2).trans f3
              have ok1' := (ok1.mono f2).mono f3
              have ok2' := ok2.mono f3
              obtain ⟨f4, R4⟩ := put1_ok f123.toFr R3 ok1' y1 h4
              have ok2a := RsOk.put1 R3 (dis_of ok1 y2) ok1' ok2' (cellR_of h5) h4
              have ok3a := RsOk.put1 R3 (dis_of (ok1.mono f2) y3) ok1' ok3 (cellR_of h6) h4
              obtain ⟨f5, R5⟩ := put1_ok f4 R4 ok2a (y2.up f1) h5
              have ok3b := RsOk.put1 R4 (dis_of ok2 y3) ok2a ok3a (cellR_of h6) h5
              obtain ⟨f6, R6⟩ := put1_ok f5 R5 ok3b (y3.up (f1.trans f2)) h6
              exact k _ _ _ f6 R6
            · cases e
          · cases e
        · cases e
      · cases e
    · cases e
  · cases e
variable {x y z : Str} {a b c : Expr} {px py pz pt pos : Pos} {kt k2 : Nat} {pt2 : Pos}
theorem ss_par (hc : X.calm = true) (hN : X.N.Nodup) (hi : X.N[i]? = some x) (hj : X.N[j]? = some y) (hij : i ≠ j) (hx : X.env.scope.names.lookup x = some .local) (hy : X.env.scope.names.lookup y = some .local) (ha : SE X a ma) (hb : SE X b mb)
    (hw : swappedStores [.Tuple [.Name x px, .Name y py] kt pt] (.Tuple [a, b] k2 pt2) X.env = pure (some [x, y])) (hs : swapsWithSole [.Tuple [.Name x px, .Name y py] kt pt] (.Tuple [a, b] k2 pt2) pos.line X.env = pure false := by rfl)
    (s1 : starEach [a, b] X.env = (false, eval a X.env) :: starEach [b] X.env := by rfl) (s2 : starEach [b] X.env = (false, eval b X.env) :: starEach [] X.env := by rfl) :
    SS X (.Assign [.Tuple [.Name x px, .Name y py] kt pt] (.Tuple [a, b] k2 pt2) pos) (sPar i j ma mb) := PS.imp (ps_par hc hN hi hj hij hx hy (pa_cons ha (pa_cons hb pa_nil s2) s1) hw hs) fun _ _ _ h => imp_par h
theorem ss_par3 (hc : X.calm = true) (hN : X.N.Nodup) (hi : X.N[i]? = some x) (hj : X.N[j]? = some y) (hl : X.N[l]? = some z) (hij : i ≠ j) (hil : i ≠ l) (hjl : j ≠ l) (hx : X.env.scope.names.lookup x = some .local) (hy : X.env.scope.names.lookup y = some .local) (hz : X.env.scope.names.lookup z = some .local) (ha : SE X a ma) (hb : SE X b mb) (hcc : SE X c mc)
    (hw : swappedStores [.Tuple [.Name x px, .Name y py, .Name z pz] kt pt] (.Tuple [a, b, c] k2 pt2) X.env = pure (some [x, y, z])) (hs : swapsWithSole [.Tuple [.Name x px, .Name y py, .Name z pz] kt pt] (.Tuple [a, b, c] k2 pt2) pos.line X.env = pure false := by rfl)
    (s1 : starEach [a, b, c] X.env = (false, eval a X.env) :: starEach [b, c] X.env := by rfl) (s2 : starEach [b, c] X.env = (false, eval b X.env) :: starEach [c] X.env := by rfl) (s3 : starEach [c] X.env = (false, eval c X.env) :: starEach [] X.env := by rfl) :
    SS X (.Assign [.Tuple [.Name x px, .Name y py, .Name z pz] kt pt] (.Tuple [a, b, c] k2 pt2) pos) (sPar3 i j l ma mb mc) := PS.imp (ps_par3 hc hN hi hj hl hij hil hjl hx hy hz (pa_cons ha (pa_cons hb (pa_cons hcc pa_nil s3) s2) s1) hw hs) fun _ _ _ h => imp_par3 h
end
/-- a tuple that comes is taken apart -/
def sAsg (m : ME) (g : MG) : MS := fun cs => match mFz m cs with
  | some (.fz t, cs1) => match g t cs1 with
    | some cs2 => some (.nx, cs2)
    | none => none
  | _ => none
section
variable {X : Cx} {K : Fg} {D : Ends} {σ : L2.St} {H : Hp} {m : ME} {g : MG} {vs : List Nat} {tg e : Expr} {pos : Pos}
theorem imp_asg (h : tSt K (sAsg m g) D σ H) : tAsg (tS K m) (gS K vs g) D σ H := by
  obtain ⟨G, cs, R, fl, cs', e, k⟩ := h
  simp only [sAsg] at e
  split at e
  · rename_i t cs1 h1
    split at e
    · rename_i cs2 h2
      cases e
      refine imp_fz ⟨G, cs, R, _, _, h1, fun G1 H1 v f1 R1 ok y => ?_⟩
      exact ⟨G1, cs1, t, R1, ok, _, h2, fun σ' _ _ f2 R2 => k σ' G1 H1 (f1.toFr.trans f2) R2⟩
    · cases e
  · cases e
theorem ss_asg (he : SE X e m) (hg : SG X tg vs g) (hs : swapsWithSole [tg] e pos.line X.env = pure false := by rfl) (hw : swappedStores [tg] e X.env = pure none := by rfl)
    (h1 : (assignEach [tg] X.env).map (·.2) = [assign tg X.env] := by rfl) : SS X (.Assign [tg] e pos) (sAsg m g) := PS.imp (ps_asg he hg hs hw h1) fun _ _ _ h => imp_asg h
end
/-! ### x op= e at a name -/
def sAug (i : Nat) (F : T → T → Option Out) (m : ME) : MS := fun cs => match cs[i]? with
  | some (.fz a) => match m cs with
    | some (r, cs1) => match pk r cs1 with
      | some b => match F a b with
        | some o => match setR i o.rs cs1 with
          | some cs2 => some (.nx, cs2)
          | none => none
        | none => none
      | none => none
    | none => none
  | _ => none
section
variable {X : Cx} {K : Fg} {D : Ends} {σ : L2.St} {H : Hp} {m : ME} {i : Nat} {F : T → T → Option Out} {x : Str} {e : Expr} {op : Operator} {pos pos' : Pos}
theorem imp_aug (h : tSt K (sAug i F m) D σ H) : tAug i (tS K m) (r2T K F) D σ H := by
  obtain ⟨G, cs, R, fl, cs', e, k⟩ := h
  simp only [sAug] at e
  split at e
  · rename_i a ha
    split at e
    · rename_i r cs1 h1
      split at e
      · rename_i b hb
        split at e
        · rename_i o ho
          split at e
          · rename_i cs2 h2
            cases e
            obtain ⟨v, ev, rv⟩ := R.fz i a ha
            refine ⟨v, ev, G, cs, R, r, cs1, h1, fun G1 H1 w f1 R1 ok y => ?_⟩
            refine ⟨G1, a, b, o, R1.le, .fz (rv.mono f1.g), ok.peek R1 hb, ho, fun G2 H2 z x oo => ?_⟩
            obtain ⟨q1, q2⟩ := oo.rs R1 x
            have f2 := f1.trans (.ext x)
            obtain ⟨G3, f3, R3⟩ := setR_ok f2 (R1.ext x) q1 (q2.up f1) h2
            exact k _ _ _ f3 R3
          · cases e
        · cases e
      · cases e
    · cases e
  · cases e
theorem ss_aug (hN : X.N.Nodup) (hi : X.N[i]? = some x) (hx : Loc X.env.scope x) (he : SE X e m) (ho : PIp X op (r2T X.K F)) (hf : X.fn x = true ∨ X.env.scope.names.lookup x = some .local := by first | exact .inl rfl | exact .inr rfl | assumption) :
    SS X (.AugAssign (.Name x pos') op e pos) (sAug i F m) := PS.imp (ps_aug hN hi hx he ho hf) fun _ _ _ h => imp_aug h
end
/-! ### x[k] = v, x[k] op= v of an own x -/
def owOf (cs : Cs) (i : Nat) : Option T := match cs[i]? with
  | some (.ow t) => some t
  | some (.bo t) => some t
  | _ => none
def sPut (i : Nat) (F : T → T → T → Option T) (mk mv : ME) : MS := fun cs => match mFz mv cs with
  | some (.fz v, cs1) => match owOf cs1 i with
    | some _ => match mk cs1 with
      | some (rk, cs2) => match pk rk cs2, owOf cs2 i with
        | some k, some t => match F t k v with
          | some t' => some (.nx, reC cs2 i t')
          | none => none
        | _, _ => none
      | none => none
    | none => none
  | _ => none
def rSetT (K : Fg) (F : T → T → T → Option T) : TSet := fun o i v H Q => ∃ G p t k tv t', o = .ref p ∧ Le G H ∧ G p = none ∧ Own K G H t p ∧ Peek K G H k i ∧ Rel K G tv v ∧ F t k tv = some t' ∧
  ∀ H', (∀ q, q ≠ p → H' q = H q) → Own K G H' t' p → Q H'
def sAugIx (i : Nat) (Gt : T → T → Option T) (F : T → T → Option Out) (P : T → T → T → Option T) (mk m : ME) : MS := fun cs => match owOf cs i with
  | some _ => match mFz mk cs with
    | some (.fz k, cs1) => match owOf cs1 i with
      | some t => match Gt t k with
        | some a => match m cs1 with
          | some (r, cs2) => match pk r cs2 with
            | some b => match F a b with
              | some (.fz z) => match owOf cs2 i with
                | some t2 => match P t2 k z with
                  | some t' => some (.nx, reC cs2 i t')
                  | none => none
                | none => none
              | _ => none
            | none => none
          | none => none
        | none => none
      | none => none
    | _ => none
  | none => none
def rGetT (K : Fg) (F : T → T → Option T) : V → V → Hp → VK → Prop := fun o i H Q => ∃ G t k a, Le G H ∧ Peek K G H t o ∧ Peek K G H k i ∧ F t k = some a ∧ ∀ v, Rel K G a v → Q v H
section
variable {X : Cx} {K : Fg} {D : Ends} {σ : L2.St} {H : Hp} {m mk mv : ME} {i : Nat} {F : T → T → Option Out} {P : T → T → T → Option T} {Gt : T → T → Option T} {cs : Cs} {t : T}
theorem owOf_of (h : owOf cs i = some t) : OwC cs i t := by
  simp only [owOf] at h
  split at h
  · rename_i u hu; cases h; exact .inl hu
  · rename_i u hu; cases h; exact .inr hu
  · cases h
theorem imp_put (h : tSt K (sPut i P mk mv) D σ H) : tAsg (tS K mv) (gSub (tVar i) (tS K mk) (rSetT K P)) D σ H := by
  obtain ⟨G, cs, R, fl, cs', e, k⟩ := h
  simp only [sPut] at e
  split at e
  · rename_i tv cs1 h1
    split at e
    · rename_i t0 h0
      split at e
      · rename_i rk cs2 h2
        split at e
        · rename_i tk t hk ht
          split at e
          · rename_i t' hP
            cases e
            refine imp_fz ⟨G, cs, R, _, _, h1, fun G1 H1 v f1 R1 ok1 y1 => ?_⟩
            obtain ⟨p, ep, _⟩ := R1.ow i t0 (owOf_of h0)
            refine ⟨_, ep, G1, cs1, R1, rk, cs2, h2, fun G2 H2 w f2 R2 ok2 y2 => ?_⟩
            obtain ⟨p', ep', gp, ow⟩ := R2.ow i t (owOf_of ht)
            rw [ep] at ep'; cases ep'
            refine ⟨G2, p, t, tk, tv, t', rfl, R2.le, gp, ow, ok2.peek R2 hk, Rel.mono f2.g ok1, hP, fun H3 off own => ?_⟩
            obtain ⟨q1, q2⟩ := mut_off R2 (owOf_of ht) ep gp off own
            exact k _ _ _ ((f1.trans f2).trans q1).toFr q2
          · cases e
        · cases e
      · cases e
    · cases e
  · cases e
variable {x : Str} {o ki e : Expr} {op : Operator} {pos tpos npos : Pos}
theorem ss_put (hN : X.N[i]? = some x) (hv : Vis X.env.scope x) (hk : SE X ki mk) (hs : PSet X (rSetT X.K P)) (he : SE X e mv)
    (hd : (x == ("__debug__" : Str)) = false := by decide) (hcd : (x == ("__classdict__" : Str)) = false := by decide)
    (ha : ∀ v, assign (.Subscript (.Name x npos) ki tpos) X.env v = (do
      let ov ← holding [v] (eval (.Name x npos) X.env)
      let iv ← holding [v, ov] (eval ki X.env)
      standAt tpos
      holding [v, ov, iv] (setItem ov iv v)
      release [v, ov, iv] []) := by intro _; rfl)
    (h1 : swapsWithSole [.Subscript (.Name x npos) ki tpos] e pos.line X.env = pure false := by rfl) (h2 : swappedStores [.Subscript (.Name x npos) ki tpos] e X.env = pure none := by rfl)
    (h3 : (assignEach [.Subscript (.Name x npos) ki tpos] X.env).map (·.2) = [assign (.Subscript (.Name x npos) ki tpos) X.env] := by rfl) :
    SS X (.Assign [.Subscript (.Name x npos) ki tpos] e pos) (sPut i P mk mv) := PS.imp (ps_asg he (pg_sub (pe_var hN hv hd hcd) hk hs ha) h1 h2 h3) fun _ _ _ h => imp_put h
theorem imp_augix (h : tSt K (sAugIx i Gt F P mk m) D σ H) : tAugS (tVar i) (tS K mk) (tS K m) (rGetT K Gt) (r2T K F) (rSetT K P) D σ H := by
  obtain ⟨G, cs, R, fl, cs', e, k⟩ := h
  simp only [sAugIx] at e
  split at e
  · rename_i t0 h0
    split at e
    · rename_i tk cs1 h1
      split at e
      · rename_i t1 ht1
        split at e
        · rename_i a hG
          split at e
          · rename_i r cs2 h2
            split at e
            · rename_i b hb
              split at e
              · rename_i z hF
                split at e
                · rename_i t2 ht2
                  split at e
                  · rename_i t' hP
                    cases e
                    obtain ⟨p, ep, _⟩ := R.ow i t0 (owOf_of h0)
                    refine ⟨_, ep, ?_⟩
                    refine imp_fz ⟨G, cs, R, _, _, h1, fun G1 H1 v f1 R1 ok1 y1 => ?_⟩
                    obtain ⟨p1, ep1, gp1, ow1⟩ := R1.ow i t1 (owOf_of ht1)
                    rw [ep] at ep1; cases ep1
                    refine ⟨G1, t1, tk, a, R1.le, .ow ow1, .fz ok1, hG, fun w rw' => ?_⟩
                    refine ⟨G1, cs1, R1, r, cs2, h2, fun G2 H2 u f2 R2 ok2 y2 => ?_⟩
                    refine ⟨G2, a, b, _, R2.le, .fz (rw'.mono f2.g), ok2.peek R2 hb, hF, fun G3 H3 zz x oo => ?_⟩
                    have R3 := R2.ext x
                    obtain ⟨p2, ep2, gp2, ow2⟩ := R3.ow i t2 (owOf_of ht2)
                    rw [ep] at ep2; cases ep2
                    refine ⟨G3, p, t2, tk, z, t', rfl, R3.le, gp2, ow2, .fz (Rel.mono (f2.g.trans x.g) ok1), oo, hP, fun H4 off own => ?_⟩
                    obtain ⟨q1, q2⟩ := mut_off R3 (owOf_of ht2) ep gp2 off own
                    exact k _ _ _ (((f1.trans f2).trans (.ext x)).trans q1).toFr q2
                  · cases e
                · cases e
              · cases e
            · cases e
          · cases e
        · cases e
      · cases e
    · cases e
  · cases e
theorem ss_augix (hN : X.N[i]? = some x) (hv : Vis X.env.scope x) (hk : SE X ki mk) (hg : PGet X (rGetT X.K Gt)) (he : SE X e m) (hp : PIp X op (r2T X.K F)) (hs : PSet X (rSetT X.K P))
    (hd : (x == ("__debug__" : Str)) = false := by decide) (hcd : (x == ("__classdict__" : Str)) = false := by decide)
    (ha : ∀ ov iv new, augStore ki ov iv new = (do holding [new, ov, iv] (setItem ov iv new); release [new, ov, iv] []; pure .next) := by intros; rfl) :
    SS X (.AugAssign (.Subscript (.Name x npos) ki tpos) op e pos) (sAugIx i Gt F P mk m) := PS.imp (ps_augS (pe_var hN hv hd hcd) hk hg he hp hs ha) fun _ _ _ h => imp_augix h
end
/-! the list and the dict -/
def putT : T → T → T → Option T
  | .list ts, .int k, v => match ixN ts.length k with
    | some j => some (.list (ts.set j v))
    | none => none
  | .dict kvs, k, v => match dPut kvs k v with
    | some kvs' => some (.dict kvs')
    | none => none
  | _, _, _ => none
def getT : T → T → Option T
  | .dict kvs, k => match dFind kvs k with
    | some (some t) => some t
    | _ => none
  | .list ts, .int k => match ixN ts.length k with
    | some j => ts[j]?
    | none => none
  | _, _ => none
section
variable {X : Cx}
theorem PSet.imp {t t' : TSet} (h : PSet X t) (i : ∀ o k v H Q, t' o k v H Q → t o k v H Q) : PSet X t' := fun pins s σ H o k v ov iv u Q I a b c q => h pins s σ H o k v ov iv u Q I a b c (i o k v H Q q)
theorem set_put (hu : X.A.units + 1 < cLine) : PSet X (rSetT X.K putT) := by
  intro pins s σ H o k v ov iv u Q I ro rk rv h
  obtain ⟨G, p, t, tk, tv, t', rfl, l, gp, ow, pk, rl, e, c⟩ := h
  cases ow with
  | lst hp rs =>
    cases tk with
    | int z =>
      have ek := Peek.int pk
      subst ek
      simp only [putT] at e
      split at e
      · rename_i j hj
        cases e
        exact set_list pins s σ H _ _ v ov iv u Q I ro rk rv ⟨p, _, z, j, rfl, rfl, hp, by rw [rs.length]; exact hj, c _ (fun q ne => upd_ne ne) (.lst upd_same (rs.set j rl))⟩
      · cases e
    | _ => cases e
  | dk hp rs =>
    cases ro
    simp only [putT, dPut] at e
    split at e
    · rename_i kvs' hd
      cases e
      split at hd
      · rename_i k' hk
        split at hd
        · rename_i hall
          cases hd
          have ey := Rel.kOf hk (pk.flat (.inr ⟨k', hk⟩))
          subst ey
          refine d_setItem hu I (.inl ⟨_, k', hp, rfl, by rw [rs.length]; exact hall.2, rfl⟩) rk rv fun s' I' => ⟨_, I', c _ (fun q ne => upd_ne ne) (.dk upd_same (rs.put hk rl))⟩
        · cases hd
      · split at hd
        · rename_i k' hk
          split at hd
          · rename_i hall
            cases hd
            obtain ⟨e1, e2⟩ := rs.noT hall.1
            subst e1; subst e2
            obtain ⟨b, ey, eb⟩ := Rel.ktOf hk (pk.flat (.inl (ktOf_is hk)))
            subst ey
            have eb := l.tp _ _ eb
            have nb : b ≠ p := by rintro rfl; rw [hp] at eb; cases eb
            refine d_setItem hu (swap_kt I hp) (.inr ⟨[], k', b, upd_same, rfl, by rw [upd_ne nb]; exact eb, by decide, rfl⟩) rk rv fun s' I' => ⟨_, I', c _ (fun q ne => ?_) (.dt upd_same (RelT.put hk rl .nil) kPut_ne)⟩
            rw [upd_ne ne, upd_ne ne]
          · cases hd
        · cases hd
    · cases e
  | dt hp rs nE =>
    cases ro
    simp only [putT, dPut] at e
    split at e
    · rename_i kvs' hd
      cases e
      split at hd
      · rename_i k' hk
        split at hd
        · rename_i hall
          cases hd
          obtain ⟨e1, e2⟩ := rs.noK hall.1
          subst e1; subst e2
          have ey := Rel.kOf hk (pk.flat (.inr ⟨k', hk⟩))
          subst ey
          refine d_setItem hu (swap_tk I hp) (.inl ⟨[], k', upd_same, rfl, by decide, rfl⟩) rk rv fun s' I' => ⟨_, I', c _ (fun q ne => ?_) (.dk upd_same (RelK.put hk rl .nil))⟩
          rw [upd_ne ne, upd_ne ne]
        · cases hd
      · split at hd
        · rename_i k' hk
          split at hd
          · rename_i hall
            cases hd
            obtain ⟨b, ey, eb⟩ := Rel.ktOf hk (pk.flat (.inl (ktOf_is hk)))
            subst ey
            have eb := l.tp _ _ eb
            refine d_setItem hu I (.inr ⟨_, k', b, hp, rfl, eb, by rw [rs.length]; exact hall.2, rfl⟩) rk rv fun s' I' => ⟨_, I', c _ (fun q ne => upd_ne ne) (.dt upd_same (rs.put hk rl) kPut_ne)⟩
          · cases hd
        · cases hd
    · cases e
theorem get_get (hu : X.A.units + 1 < cLine) : PGet X (rGetT X.K getT) := by
  intro pins s σ H o k ov iv Q I ro rk h
  obtain ⟨G, t, tk, a, l, pt, pk, e, c⟩ := h
  cases t with
  | dict kvs =>
    simp only [getT] at e
    split at e
    · rename_i t hf
      cases e
      obtain ⟨ad, ov', rfl, g, _, got⟩ := peek_dg l pt pk hf
      obtain ⟨w, eo, rw'⟩ := got
      subst eo
      have g : DGet H ad k (some w) := g.resolve_right fun z => nomatch z.1
      cases ro
      exact d_getItem hu I g rk fun w' s' I' rv => ⟨w, H, I', rv, c w rw'⟩
    · cases e
  | list ts =>
    cases tk with
    | int z =>
      have ek := Peek.int pk
      subst ek
      simp only [getT] at e
      split at e
      · rename_i j hj
        obtain ⟨ad, vs, rfl, hr, rs⟩ := pt.lst l
        cases ro
        obtain ⟨t, rfl⟩ := rk
        obtain ⟨zl, its, n, r, ho⟩ := hr.ok I.hok
        obtain ⟨h1, h2, h3, h4⟩ := ixN_seq hj
        obtain ⟨w, ew, rw'⟩ := rs.get e
        obtain ⟨u, eu, ru⟩ := r.get ew
        have hl := r.length
        have hlt := rs.length
        have hn := line63
        have lst : s.heap.IsList ad its.toArray := ⟨_, ho, rfl, n, rfl⟩
        have fin : EP X pins σ Q u s := ⟨w, H, I, ru, c w rw'⟩
        by_cases h0 : 0 ≤ z
        · have hk : z.toNat = j := by
            rw [seqIndex_of h0 h4] at h1
            exact Option.some.inj h1
          exact wpAny_getItem_list lst h0 (by omega) (by rw [hk]; simpa using eu) fin
        · have hk : (z + (its.toArray.size : Int)).toNat = j := by
            rw [seqIndex_neg (by omega) h3] at h1
            rw [List.size_toArray, ← hl, hlt]
            exact Option.some.inj h1
          exact wpAny_getItem_list_neg lst (by omega) (by rw [List.size_toArray] <;> omega) (by omega) (by rw [hk]; simpa using eu) fin
      · cases e
    | _ => cases e
  | _ => cases e
end
end TL
namespace TL
open PySem PySem.Spec L2

/-! ### data that may be compared -/
mutual
def okD : Nat → T → Bool
  | _, .none => true
  | _, .bool _ => true
  | _, .int _ => true
  | _, .str x => PyData.strOk x
  | n + 1, .list xs => okA n xs
  | n + 1, .tuple xs => okA n xs
  | 0, .list _ => false
  | 0, .tuple _ => false
  | _, .dict _ => false
def okA : Nat → List T → Bool
  | _, [] => true
  | n, x :: xs => okD n x && okA n xs
end
mutual
theorem okD_lay : ∀ (t : T) (n : Nat), okD n t = true → t.canLay0 = true ∧ t.depth ≤ n
  | .none, _, _ => ⟨rfl, Nat.zero_le _⟩
  | .bool _, _, _ => ⟨rfl, Nat.zero_le _⟩
  | .int _, _, _ => ⟨rfl, Nat.zero_le _⟩
  | .str x, _, h => ⟨by simpa [okD, PyData.canLay0] using h, Nat.zero_le _⟩
  | .list xs, 0, h => by simp [okD] at h
  | .tuple xs, 0, h => by simp [okD] at h
  | .list xs, n + 1, h => by
    obtain ⟨a, b⟩ := okA_lay xs n (by simpa [okD] using h)
    exact ⟨by simpa [PyData.canLay0] using a, by simp only [PyData.depth]; omega⟩
  | .tuple xs, n + 1, h => by
    obtain ⟨a, b⟩ := okA_lay xs n (by simpa [okD] using h)
    exact ⟨by simpa [PyData.canLay0] using a, by simp only [PyData.depth]; omega⟩
  | .dict _, n, h => by cases n <;> simp [okD] at h
theorem okA_lay : ∀ (ts : List T) (n : Nat), okA n ts = true → PyData.canLayAll0 ts = true ∧ PyData.depthAll ts ≤ n
  | [], _, _ => ⟨rfl, Nat.zero_le _⟩
  | t :: ts, n, h => by
    rw [okA, Bool.and_eq_true] at h
    obtain ⟨a, b⟩ := okD_lay t n h.1
    obtain ⟨c, d⟩ := okA_lay ts n h.2
    refine ⟨by simp [PyData.canLayAll0, a, c], ?_⟩
    simp only [PyData.depthAll]
    omega
end
theorem okD_shaped {t : T} (h : okD 20 t = true) : SeqAt.shaped t = true := by
  obtain ⟨a, b⟩ := okD_lay t 20 h
  unfold SeqAt.shaped
  rw [a, Bool.true_and]
  exact decide_eq_true (by omega)
theorem okA_all {n : Nat} : ∀ {ts : List T}, okA n ts = ts.all (okD n)
  | [] => rfl
  | t :: ts => by rw [okA, List.all_cons, okA_all]
section
variable {K : Fg} {G H : Hp}
mutual
theorem Rel.dp : ∀ {t : T} {v : V} (n : Nat), okD n t = true → Rel K H t v → Dp K H v t
  | _, _, _, _, .non => .non
  | _, _, _, _, .bl b => .bl b
  | _, _, _, _, .int i => .int i
  | _, _, _, _, .str x => .str x
  | _, _, 0, h, .lst _ _ => by simp [okD] at h
  | _, _, 0, h, .tup _ _ => by simp [okD] at h
  | _, _, n + 1, h, .lst e r => .lst (.inl e) (Rels.dp n (by simpa [okD] using h) r)
  | _, _, n + 1, h, .tup e r => .tup (.inl (.inl e)) (Rels.dp n (by simpa [okD] using h) r)
  | _, _, n, h, .dk _ _ => by cases n <;> simp [okD] at h
  | _, _, n, h, .dt _ _ _ => by cases n <;> simp [okD] at h
theorem Rels.dp : ∀ {t : List T} {v : List V} (n : Nat), okA n t = true → Rels K H t v → DpAll K H v t
  | _, _, _, _, .nil => .nil
  | _, _, n, h, .cons a r => by
    rw [okA, Bool.and_eq_true] at h
    exact .cons (Rel.dp n h.1 a) (Rels.dp n h.2 r)
end
theorem Peek.dp {t : T} {v : V} (l : Le G H) (p : Peek K G H t v) (h : okD 20 t = true) : Dp K H v t := (p.rel l).dp 20 h
end

/-! ### operators -/
section
variable {X : Cx} {pins : List (Addr × Obj)} {σ : L2.St} {H : Hp} {s : Shared} {ys : List V}
theorem inv_fresh (I : Inv X pins σ H s) : H s.heap.objs.size = none := I.hok.fresh (Nat.le_refl _)
theorem inv_lnew {its : List Value} (I : Inv X pins σ H s) (hv : Vals ys its) (hz : ys.length ≤ sizeLine) :
    Inv X pins σ (upd H s.heap.objs.size (.lst ys)) { s with heap := s.heap.push { cls := .type "list", data := .seq its.toArray } } :=
  I.laid (t' := s.toks) (fun _ _ q => Heap.get?_push_of_some _ q) (Nat.le_refl _) ⟨hz, its, 0, hv, Heap.get?_push_size _ rfl⟩
end
section
variable {X : Cx}
theorem OpR.imp {f : Value → Value → Sem Value} {r r' : R2} (h : OpR X f r) (i : ∀ x y H Q, r' x y H Q → r x y H Q) : OpR X f r' := fun pins s σ H x y v u Q I rx ry q => h pins s σ H x y v u Q I rx ry (i x y H Q q)
theorem IxR.imp {r r' : R2} (h : IxR X r) (i : ∀ x y H Q, r' x y H Q → r x y H Q) : IxR X r' := fun value slice pins s σ H x y v u Q I rx ry q => h value slice pins s σ H x y v u Q I rx ry (i x y H Q q)
theorem CallR.imp {f : Value} {r r' : List V → Hp → VK → Prop} (h : CallR X f r) (i : ∀ xs H Q, r' xs H Q → r xs H Q) : CallR X f r' := fun pins s σ H xs us Q I rx q => h pins s σ H xs us Q I rx (i xs H Q q)
/-- one operator by several functions on trees -/
theorem OpR.alt {f : Value → Value → Sem Value} {F F1 F2 : T → T → Option Out} (h1 : OpR X f (r2T X.K F1)) (h2 : OpR X f (r2T X.K F2)) (h : ∀ a b o, F a b = some o → F1 a b = some o ∨ F2 a b = some o) : OpR X f (r2T X.K F) := by
  refine OpR.imp (OpR.or h1 h2) fun x y H Q ⟨G, a, b, o, l, pa, pb, e, k⟩ => ?_
  rcases h a b o e with z | z
  · exact .inl ⟨G, a, b, o, l, pa, pb, z, k⟩
  · exact .inr ⟨G, a, b, o, l, pa, pb, z, k⟩
theorem IxR.alt {F F1 F2 : T → T → Option Out} (h1 : IxR X (r2T X.K F1)) (h2 : IxR X (r2T X.K F2)) (h : ∀ a b o, F a b = some o → F1 a b = some o ∨ F2 a b = some o) : IxR X (r2T X.K F) := by
  refine IxR.imp (IxR.or h1 h2) fun x y H Q ⟨G, a, b, o, l, pa, pb, e, k⟩ => ?_
  rcases h a b o e with z | z
  · exact .inl ⟨G, a, b, o, l, pa, pb, z, k⟩
  · exact .inr ⟨G, a, b, o, l, pa, pb, z, k⟩
/-- ints in, a scalar out -/
def intF (C : Int → Int → Prop) [∀ i j, Decidable (C i j)] (g : Int → Int → T) : T → T → Option Out
  | .int i, .int j => if C i j then some (.fz (g i j)) else none
  | _, _ => none
theorem op_int {f : Value → Value → Sem Value} {C C' : Int → Int → Prop} [∀ i j, Decidable (C i j)] {g : Int → Int → T} {g' : Int → Int → V} (h : OpR X f (rI C' g')) (hc : ∀ i j, C i j → C' i j) (hg : ∀ K G i j, C i j → Rel K G (g i j) (g' i j)) : OpR X f (r2T X.K (intF C g)) :=
  OpR.imp h fun x y H Q ⟨G, a, b, o, l, pa, pb, e, k⟩ => by
    cases a with
    | int i =>
      cases b with
      | int j =>
        simp only [intF] at e
        split at e
        · rename_i hC
          cases e
          exact ⟨i, j, pa.int, pb.int, hc i j hC, k G H _ (.refl l) (hg _ _ i j hC)⟩
        · cases e
      | _ => cases e
    | _ => cases e
theorem op_int0 {f : Value → Value → Sem Value} {g : Int → Int → T} {g' : Int → Int → V} (h : OpR X f (rI0 g')) (hg : ∀ K G i j, Rel K G (g i j) (g' i j)) : OpR X f (r2T X.K (intF (fun _ _ => True) g)) :=
  OpR.imp h fun x y H Q ⟨G, a, b, o, l, pa, pb, e, k⟩ => by
    cases a with
    | int i =>
      cases b with
      | int j =>
        simp only [intF, if_true] at e
        cases e
        exact ⟨i, j, pa.int, pb.int, k G H _ (.refl l) (hg _ _ i j)⟩
      | _ => cases e
    | _ => cases e
end
/-- + -/
def addT : T → T → Option Out
  | .int i, .int j => some (.fz (.int (i + j)))
  | .str x, .str y => if x.length + y.length ≤ sizeLine then some (.fz (.str (x ++ y))) else none
  | .tuple xs, .tuple ys => if xs.length + ys.length ≤ sizeLine then some (.fz (.tuple (xs ++ ys))) else none
  | .list xs, .list ys => if xs.length + ys.length ≤ sizeLine then some (.nw (.list (xs ++ ys))) else none
  | _, _ => none
def subT : T → T → Option Out := intF (fun _ _ => True) fun i j => .int (i - j)
def mulI : T → T → Option Out := intF (fun i j => (-(2 ^ 64) < i ∧ i < 2 ^ 64) ∨ (-(2 ^ 64) < j ∧ j < 2 ^ 64)) fun i j => .int (i * j)
def repL : T → T → Option Out
  | .list xs, .int k => if -(2 ^ 63) ≤ k ∧ k < 2 ^ 63 ∧ xs.length * k.toNat ≤ sizeLine then some (.nw (.list (List.replicate k.toNat xs).flatten)) else none
  | _, _ => none
def mulT : T → T → Option Out
  | .list xs, .int k => repL (.list xs) (.int k)
  | a, b => mulI a b
def divT : T → T → Option Out := intF (fun _ j => 0 < j ∧ j < 1073741824) fun i j => .int (i / j)
def modT : T → T → Option Out := intF (fun _ j => 0 < j) fun i j => .int (i % j)
def powT : T → T → Option Out := intF (fun i j => 0 ≤ j ∧ j ≤ 1000000 ∧ i.natAbs < 2 ^ 64) fun i j => .int (i ^ j.toNat)
def shlT : T → T → Option Out := intF (fun i j => 0 ≤ j ∧ j ≤ 1000000 ∧ i.natAbs < 2 ^ 64) fun i j => .int (i * 2 ^ j.toNat)
def shrT : T → T → Option Out := intF (fun _ j => 0 ≤ j) fun i j => .int (i / 2 ^ j.toNat)
def negT : T → Option Out
  | .int i => some (.fz (.int (-i)))
  | _ => none
section
variable {X : Cx}
theorem o_sub : OpR X (binaryOp .Sub) (r2T X.K subT) := op_int0 op_sub fun _ _ _ _ => .int _
theorem o_mod : OpR X (binaryOp .Mod) (r2T X.K modT) := op_int op_mod (fun _ _ h => h) fun _ _ _ _ _ => .int _
theorem o_div : OpR X (binaryOp .FloorDiv) (r2T X.K divT) := op_int op_fdiv (fun _ _ h => h) fun _ _ _ _ _ => .int _
theorem o_pow : OpR X (binaryOp .Pow) (r2T X.K powT) := op_int op_pow (fun _ _ h => h) fun _ _ _ _ _ => .int _
theorem o_shl : OpR X (binaryOp .LShift) (r2T X.K shlT) := op_int op_shl (fun _ _ h => h) fun _ _ _ _ _ => .int _
theorem o_shr : OpR X (binaryOp .RShift) (r2T X.K shrT) := op_int op_shr (fun _ _ h => h) fun _ _ _ _ _ => .int _
theorem o_mulI : OpR X (binaryOp .Mult) (r2T X.K mulI) := op_int op_mul (fun _ _ h => h) fun _ _ _ _ _ => .int _
theorem o_neg : UnR X (unaryOp .USub) (r1T X.K negT) := fun pins s σ H x v Q I rx ⟨G, a, o, l, pa, e, k⟩ => by
  cases a with
  | int i =>
    cases e
    exact un_neg pins s σ H x v Q I rx ⟨i, pa.int, k G H _ (.refl l) (.int _)⟩
  | _ => cases e
theorem o_add : OpR X (binaryOp .Add) (r2T X.K addT) := by
  intro pins s σ H x y v u Q I rx ry ⟨G, a, b, o, l, pa, pb, e, k⟩
  cases a with
  | int i =>
    cases b with
    | int j =>
      cases e
      exact op_add pins s σ H x y v u Q I rx ry ⟨i, j, pa.int, pb.int, k G H _ (.refl l) (.int _)⟩
    | _ => cases e
  | str i =>
    cases b with
    | str j =>
      simp only [addT] at e
      split at e
      · rename_i hl
        cases e
        exact op_add_str pins s σ H x y v u Q I rx ry ⟨i, j, pa.str, pb.str, hl, k G H _ (.refl l) (.str _)⟩
      · cases e
    | _ => cases e
  | tuple xs =>
    cases b with
    | tuple ys =>
      simp only [addT] at e
      split at e
      · rename_i hl
        cases e
        obtain ⟨a1, vs, rfl, h1, r1⟩ := pa.tup l
        obtain ⟨b1, ws, rfl, h2, r2⟩ := pb.tup l
        refine op_catA pins s σ H _ _ v u Q I rx ry ⟨a1, b1, vs, ws, rfl, rfl, .inl (.inl (l.tp _ _ h1)), .inl (.inl (l.tp _ _ h2)), by rw [r1.length, r2.length]; exact hl, fun e => ?_, fun _ e => ?_, fun _ _ p np => ?_⟩
        · subst e
          cases r1
          exact k G H _ (.refl l) (.tup h2 r2)
        · subst e
          cases r2
          refine k G H _ (.refl l) ?_
          rw [List.append_nil]
          exact .tup h1 r1
        · have x := Ext.both l np (o := .tup (vs ++ ws)) trivial
          exact k _ _ _ x (.tup upd_same ((r1.app r2).mono x.g))
      · cases e
    | _ => cases e
  | list xs =>
    cases b with
    | list ys =>
      simp only [addT] at e
      split at e
      · rename_i hl
        cases e
        obtain ⟨a1, vs, rfl, h1, r1⟩ := pa.lst l
        obtain ⟨b1, ws, rfl, h2, r2⟩ := pb.lst l
        cases rx
        cases ry
        obtain ⟨z, its, n, q1, e1⟩ := h1.ok I.hok
        obtain ⟨z2, its2, n2, q2, e2⟩ := h2.ok I.hok
        have l1 := q1.length
        have l2 := q2.length
        have m1 := r1.length
        have m2 := r2.length
        refine PySem.P.add_list e1 e2 ?_ (by rw [List.size_toArray, List.size_toArray]; omega)
        have ea : its.toArray ++ its2.toArray = (its ++ its2).toArray := by simp
        rw [ea]
        have x := Ext.own (p := s.heap.objs.size) (o := .lst (vs ++ ws)) l (inv_fresh I)
        exact ⟨.ref _, _, inv_lnew I (q1.append q2) (by rw [List.length_append]; omega), rfl, k _ _ _ x ⟨_, rfl, inv_fresh I, l.dom _ (inv_fresh I), .lst upd_same (r1.app r2)⟩⟩
      · cases e
    | _ => cases e
  | _ => cases e
end
end TL
namespace TL
open PySem PySem.Spec L2

/-! ### comparisons -/
def eqT : T → T → Option Out := fun a b => if okD 20 a && okD 20 b then some (.fz (.bool (PyData.eqv a b))) else none
def neT : T → T → Option Out := fun a b => if okD 20 a && okD 20 b then some (.fz (.bool (!PyData.eqv a b))) else none
def isNo : T → Bool
  | .none => true
  | _ => false
def isNT : T → T → Option Out
  | a, .none => some (.fz (.bool (isNo a)))
  | _, _ => none
def isntNT : T → T → Option Out
  | a, .none => some (.fz (.bool (!isNo a)))
  | _, _ => none
def strF (g : List Nat → List Nat → Bool) : T → T → Option Out
  | .str x, .str y => some (.fz (.bool (g x.cps.toList y.cps.toList)))
  | _, _ => none
def ltI : T → T → Option Out := intF (fun _ _ => True) fun i j => .bool (decide (i < j))
def leI : T → T → Option Out := intF (fun _ _ => True) fun i j => .bool (decide (i ≤ j))
def gtI : T → T → Option Out := intF (fun _ _ => True) fun i j => .bool (decide (j < i))
def geI : T → T → Option Out := intF (fun _ _ => True) fun i j => .bool (decide (j ≤ i))
def inT : T → T → Option Out
  | a, .list ts => if okD 20 a && okD 20 (.list ts) then some (.fz (.bool (ts.any fun y => PyData.eqv y a))) else none
  | a, .tuple ts => if okD 20 a && okD 20 (.tuple ts) then some (.fz (.bool (ts.any fun y => PyData.eqv y a))) else none
  | a, .dict kvs => dInT a (.dict kvs)
  | _, _ => none
def notInT : T → T → Option Out
  | a, .list ts => if okD 20 a && okD 20 (.list ts) then some (.fz (.bool (!ts.any fun y => PyData.eqv y a))) else none
  | a, .tuple ts => if okD 20 a && okD 20 (.tuple ts) then some (.fz (.bool (!ts.any fun y => PyData.eqv y a))) else none
  | a, .dict kvs => dNotInT a (.dict kvs)
  | _, _ => none
section
variable {X : Cx}
theorem o_eq (hu : X.A.units + 64 < cLine) : OpR X (compareOp .Eq) (r2T X.K eqT) := OpR.imp (op_eqD hu) fun x y H Q ⟨G, a, b, o, l, pa, pb, e, k⟩ => by
  simp only [eqT] at e
  split at e
  · rename_i h
    cases e
    rw [Bool.and_eq_true] at h
    exact ⟨a, b, pa.dp l h.1, pb.dp l h.2, okD_shaped h.1, okD_shaped h.2, k G H _ (.refl l) (.bl _)⟩
  · cases e
theorem o_ne (hu : X.A.units + 64 < cLine) : OpR X (compareOp .NotEq) (r2T X.K neT) := OpR.imp (op_neD hu) fun x y H Q ⟨G, a, b, o, l, pa, pb, e, k⟩ => by
  simp only [neT] at e
  split at e
  · rename_i h
    cases e
    rw [Bool.and_eq_true] at h
    exact ⟨a, b, pa.dp l h.1, pb.dp l h.2, okD_shaped h.1, okD_shaped h.2, k G H _ (.refl l) (.bl _)⟩
  · cases e
theorem o_isN : OpR X (compareOp .Is) (r2T X.K isNT) := OpR.imp op_isN fun x y H Q ⟨G, a, b, o, l, pa, pb, e, k⟩ => by
  cases b with
  | none =>
    cases e
    refine ⟨pb.non, ?_⟩
    have h := k G H _ (.refl l) (.bl _)
    have e2 : isNo a = decide (x = V.non) := by
      cases pa with
      | fz r => cases r <;> rfl
      | ow o => cases o <;> rfl
    rw [← e2]; exact h
  | _ => cases e
theorem o_isntN : OpR X (compareOp .IsNot) (r2T X.K isntNT) := OpR.imp op_notN fun x y H Q ⟨G, a, b, o, l, pa, pb, e, k⟩ => by
  cases b with
  | none =>
    cases e
    refine ⟨pb.non, ?_⟩
    have h := k G H _ (.refl l) (.bl _)
    have e2 : (!isNo a) = !decide (x = V.non) := by
      cases pa with
      | fz r => cases r <;> rfl
      | ow o => cases o <;> rfl
    rw [← e2]; exact h
  | _ => cases e
theorem o_lt : OpR X (compareOp .Lt) (r2T X.K ltI) := op_int0 op_lt fun _ _ _ _ => .bl _
theorem o_le : OpR X (compareOp .LtE) (r2T X.K leI) := op_int0 op_le fun _ _ _ _ => .bl _
theorem o_gt : OpR X (compareOp .Gt) (r2T X.K gtI) := op_int0 op_gt fun _ _ _ _ => .bl _
theorem o_ge : OpR X (compareOp .GtE) (r2T X.K geI) := op_int0 op_ge fun _ _ _ _ => .bl _
theorem op_str {f : Value → Value → Sem Value} {g : List Nat → List Nat → Bool} (h : OpR X f (fun x y H Q => ∃ i j, x = V.str i ∧ y = V.str j ∧ Q (.bl (g i.cps.toList j.cps.toList)) H)) : OpR X f (r2T X.K (strF g)) :=
  OpR.imp h fun x y H Q ⟨G, a, b, o, l, pa, pb, e, k⟩ => by
    cases a with
    | str i =>
      cases b with
      | str j =>
        cases e
        exact ⟨i, j, pa.str, pb.str, k G H _ (.refl l) (.bl _)⟩
      | _ => cases e
    | _ => cases e
theorem o_in_seq (hu : X.A.units + 65 < cLine) : OpR X (compareOp .In) (r2T X.K inT) := by
  intro pins s σ H x y v u Q I rx ry ⟨G, a, b, o, l, pa, pb, e, k⟩
  cases b with
  | list ts =>
    simp only [inT] at e
    split at e
    · rename_i h
      cases e
      rw [Bool.and_eq_true] at h
      exact op_inD hu pins s σ H x y v u Q I rx ry ⟨a, ts, pa.dp l h.1, pb.dp l h.2, okD_shaped h.1, okD_shaped h.2, k G H _ (.refl l) (.bl _)⟩
    · cases e
  | tuple ts =>
    simp only [inT] at e
    split at e
    · rename_i h
      cases e
      rw [Bool.and_eq_true] at h
      obtain ⟨as, r1⟩ := Dp.reads I a x v (pa.dp l h.1) rx
      obtain ⟨bs, r2⟩ := Dp.reads I (.tuple ts) y u (pb.dp l h.2) ry
      exact SeqAt.in_tuple_reads r2 r1 (SeqAt.canLay_of_shaped (okD_shaped h.2)) (SeqAt.canLay_of_shaped (okD_shaped h.1)) (PyProof.Rows.room_in_shaped (okD_shaped h.1) hu) ⟨.bl _, H, I, rfl, k G H _ (.refl l) (.bl _)⟩
    · cases e
  | dict kvs =>
    exact op_din (by omega) pins s σ H x y v u Q I rx ry ⟨G, a, _, o, l, pa, pb, e, k⟩
  | _ => cases e
theorem o_notIn_seq (hu : X.A.units + 65 < cLine) : OpR X (compareOp .NotIn) (r2T X.K notInT) := by
  intro pins s σ H x y v u Q I rx ry ⟨G, a, b, o, l, pa, pb, e, k⟩
  cases b with
  | list ts =>
    simp only [notInT] at e
    split at e
    · rename_i h
      cases e
      rw [Bool.and_eq_true] at h
      exact op_notInD hu pins s σ H x y v u Q I rx ry ⟨a, ts, pa.dp l h.1, pb.dp l h.2, okD_shaped h.1, okD_shaped h.2, k G H _ (.refl l) (.bl _)⟩
    · cases e
  | tuple ts =>
    simp only [notInT] at e
    split at e
    · rename_i h
      cases e
      rw [Bool.and_eq_true] at h
      obtain ⟨as, r1⟩ := Dp.reads I a x v (pa.dp l h.1) rx
      obtain ⟨bs, r2⟩ := Dp.reads I (.tuple ts) y u (pb.dp l h.2) ry
      exact SeqAt.notIn_tuple_reads r2 r1 (SeqAt.canLay_of_shaped (okD_shaped h.2)) (SeqAt.canLay_of_shaped (okD_shaped h.1)) (PyProof.Rows.room_in_shaped (okD_shaped h.1) hu) ⟨.bl _, H, I, rfl, k G H _ (.refl l) (.bl _)⟩
    · cases e
  | dict kvs =>
    exact op_dnotIn (by omega) pins s σ H x y v u Q I rx ry ⟨G, a, _, o, l, pa, pb, e, k⟩
  | _ => cases e
end

/-! ### items and slices -/
def atT (ts : List T) (i : Int) : Option T := match ixN ts.length i with
  | some j => ts[j]?
  | none => none
def ixT : T → T → Option Out
  | .list ts, .int i => (atT ts i).map Out.fz
  | .tuple ts, .int i => (atT ts i).map Out.fz
  | .str z, .int i => if z.length ≤ sizeLine then (match atI z.cps.toList i with
    | some c => some (.fz (.str ⟨#[c]⟩))
    | none => none) else none
  | .dict kvs, k => dGetT (.dict kvs) k
  | _, _ => none
section
variable {X : Cx} {K : Fg} {G H : Hp}
theorem at_rels {ts : List T} {vs : List V} {i : Int} {t : T} (r : Rels K G ts vs) (e : atT ts i = some t) : ∃ v, atI vs i = some v ∧ Rel K G t v := by
  simp only [atT] at e
  split at e
  · rename_i j hj
    obtain ⟨v, ev, rv⟩ := r.get e
    refine ⟨v, ?_, rv⟩
    unfold atI
    rw [r.length, hj]
    exact ev
  · cases e
theorem o_ix (hu : X.A.units + 1 < cLine) : IxR X (r2T X.K ixT) := by
  intro value slice pins s σ H x y v u Q I rx ry ⟨G, a, b, o, l, pa, pb, e, k⟩ hs
  cases a with
  | list ts =>
    cases b with
    | int i =>
      simp only [ixT] at e
      obtain ⟨t, ht, rfl⟩ := Option.map_eq_some_iff.mp e
      obtain ⟨p, vs, rfl, hr, rs⟩ := pa.lst l
      obtain ⟨w, ew, rw'⟩ := at_rels rs ht
      exact ix_list value slice pins s σ H _ _ v u Q I rx ry ⟨p, vs, i, w, rfl, pb.int, .inl hr, ew, k G H _ (.refl l) rw'⟩ hs
    | _ => cases e
  | tuple ts =>
    cases b with
    | int i =>
      simp only [ixT] at e
      obtain ⟨t, ht, rfl⟩ := Option.map_eq_some_iff.mp e
      obtain ⟨p, vs, rfl, hr, rs⟩ := pa.tup l
      obtain ⟨w, ew, rw'⟩ := at_rels rs ht
      exact ix_tup value slice pins s σ H _ _ v u Q I rx ry ⟨p, vs, i, w, rfl, pb.int, .inl (.inl (l.tp _ _ hr)), ew, k G H _ (.refl l) rw'⟩ hs
    | _ => cases e
  | str z =>
    cases b with
    | int i =>
      simp only [ixT] at e
      split at e
      · rename_i hz
        split at e
        · rename_i c hc
          cases e
          exact ix_str value slice pins s σ H _ _ v u Q I rx ry ⟨z, i, c, pa.str, pb.int, hz, hc, k G H _ (.refl l) (.str _)⟩ hs
        · cases e
      · cases e
    | _ => cases e
  | dict kvs => exact ix_dict hu value slice pins s σ H x y v u Q I rx ry ⟨G, _, b, o, l, pa, pb, e, k⟩ hs
  | _ => cases e
end
/-- a part of a list or tuple -/
def cutT (ts : List T) (lo hi : Option Int) : List T := (ts.drop (HT.sIx ts.length 0 lo)).take (HT.sIx ts.length ts.length hi - HT.sIx ts.length 0 lo)
def slT : T → Option Int → Option Int → Option Out
  | .list ts, lo, hi => some (.nw (.list (cutT ts lo hi)))
  | .tuple ts, lo, hi => some (.fz (.tuple (cutT ts lo hi)))
  | _, _, _ => none
def mSl (m : ME) (lo hi : Option ME) : ME := fun cs => match m cs with
  | some (r, cs1) => match (match lo with
      | none => some (none, cs1)
      | some ml => match ml cs1 with
        | some (.fz (.int i), cs2) => some (some i, cs2)
        | _ => none : Option (Option Int × Cs)) with
    | some (l, cs2) => match (match hi with
        | none => some (none, cs2)
        | some mh => match mh cs2 with
          | some (.fz (.int i), cs3) => some (some i, cs3)
          | _ => none : Option (Option Int × Cs)) with
      | some (h, cs3) => match pk r cs3 with
        | some t => match slT t l h with
          | some o => some (o.rs, cs3)
          | none => none
        | none => none
      | none => none
    | none => none
  | none => none
def tO (K : Fg) (m : Option ME) : TO := match m with
  | none => tNoPart
  | some m => tPart (tS K m)
theorem cutT_rels {K : Fg} {G : Hp} {ts : List T} {vs : List V} {lo hi : Option Int} (r : Rels K G ts vs) : Rels K G (cutT ts lo hi) (cutV vs lo hi) := by
  unfold cutT cutV
  rw [r.length]
  exact (r.drop _).take _
def rSlD (K : Fg) : V → Option Int → Option Int → Hp → VK → Prop := fun x lo hi H Q => ∃ G t o, Le G H ∧ Peek K G H t x ∧ slT t lo hi = some o ∧ ∀ G' H' v, Ext G H G' H' → OutOk K H G' H' o v → Q v H'
section
variable {X : Cx} {K : Fg} {σ : L2.St} {H : Hp} {Q : VK} {m : ME} {lo hi : Option ME}
theorem sl_all : SlR X (rSlD X.K) := by
  intro pins s σ H x v vl vu lo hi sl Q I rx hs pl pu ⟨G, t, o, l, pt, e, k⟩
  cases t with
  | list ts =>
    cases e
    obtain ⟨p, vs, rfl, hr, rs⟩ := pt.lst l
    refine sl_list pins s σ H _ v vl vu lo hi sl Q I rx hs pl pu ⟨p, vs, rfl, .inl hr, fun q nq => ?_⟩
    exact k _ _ _ (.own l nq) ⟨q, rfl, nq, l.dom _ nq, .lst upd_same (cutT_rels rs)⟩
  | tuple ts =>
    cases e
    obtain ⟨p, vs, rfl, hr, rs⟩ := pt.tup l
    refine sl_tupA pins s σ H _ v vl vu lo hi sl Q I rx hs pl pu ⟨p, vs, rfl, .inl (.inl (l.tp _ _ hr)), fun ⟨h1, h2⟩ => ?_, fun _ q nq => ?_⟩
    · refine k G H _ (.refl l) ?_
      have : cutT ts lo hi = ts := by
        unfold cutT
        rw [rs.length] at h1 h2
        rw [h1, h2, List.drop_zero, Nat.sub_zero, List.take_length]
      rw [this]
      exact .tup hr rs
    · have x := Ext.both l nq (o := .tup (cutV vs lo hi)) trivial
      exact k _ _ _ x (.tup upd_same ((cutT_rels rs).mono x.g))
  | _ => cases e
theorem imp_sl (h : tS K (mSl m lo hi) σ H Q) : tSl (rSlD K) (tS K m) (tO K lo) (tO K hi) σ H Q := by
  obtain ⟨G, cs, R, r, cs', e, k⟩ := h
  simp only [mSl] at e
  split at e
  · rename_i r0 cs1 h1
    split at e
    · rename_i li cs2 h2
      split at e
      · rename_i hj cs3 h3
        split at e
        · rename_i t ht
          split at e
          · rename_i o ho
            cases e
            refine ⟨G, cs, R, r0, cs1, h1, fun G1 H1 v f1 R1 ok1 y1 => ?_⟩
            -- the lower end
            have lower : ∀ (Q' : Option Int → Hp → Prop), (∀ G2 H2, FrE σ G1 H1 cs1 G2 H2 cs2 → SR K G2 H2 cs2 σ → Q' li H2) → tO K lo σ H1 Q' := fun Q' q => by
              cases lo with
              | none => cases h2; exact q G1 H1 .refl R1
              | some ml =>
                simp only at h2
                split at h2
                · rename_i i c2 hm
                  cases h2
                  exact ⟨G1, cs1, R1, _, _, hm, fun G2 H2 w f2 R2 ok2 y2 => by cases ok2; exact ⟨i, rfl, q G2 H2 f2 R2⟩⟩
                · cases h2
            refine lower _ fun G2 H2 f2 R2 => ?_
            have upper : ∀ (Q' : Option Int → Hp → Prop), (∀ G3 H3, FrE σ G2 H2 cs2 G3 H3 cs' → SR K G3 H3 cs' σ → Q' hj H3) → tO K hi σ H2 Q' := fun Q' q => by
              cases hi with
              | none => cases h3; exact q G2 H2 .refl R2
              | some mh =>
                simp only at h3
                split at h3
                · rename_i i c3 hm
                  cases h3
                  exact ⟨G2, cs2, R2, _, _, hm, fun G3 H3 w f3 R3 ok3 y3 => by cases ok3; exact ⟨i, rfl, q G3 H3 f3 R3⟩⟩
                · cases h3
            refine upper _ fun G3 H3 f3 R3 => ?_
            have ff := (f1.trans f2).trans f3
            refine ⟨G3, t, o, R3.le, ((ok1.mono f2).mono f3).peek R3 ht, ho, fun G4 H4 w x oo => ?_⟩
            obtain ⟨q1, q2⟩ := oo.rs R3 x
            exact k G4 H4 w (ff.trans (.ext x)) (R3.ext x) q1 (q2.up ff)
          · cases e
        · cases e
      · cases e
    · cases e
  · cases e
variable {e : Expr} {el eh : Option Expr} {p2 pos : Pos}
theorem so_none : PO X none (tO X.K none) := po_none
theorem so_some {e : Expr} {m : ME} (h : SE X e m) : PO X (some e) (tO X.K (some m)) := po_some h
theorem se_sl (he : SE X e m) (hl : PO X el (tO X.K lo)) (hu : PO X eh (tO X.K hi)) : SE X (.Subscript e (.Slice el eh none p2) pos) (mSl m lo hi) := PE.imp (pe_slice sl_all he hl hu) fun _ _ _ h => imp_sl h
/-- xs[::-1] -/
def revT : T → Option Out
  | .list ts => some (.nw (.list ts.reverse))
  | _ => none
theorem imp_rev (h : tS K (mUn revT m) σ H Q) : tRevL K (tS K m) σ H Q := by
  obtain ⟨G, cs, R, r, cs1, h1, q⟩ := imp_un h
  refine ⟨G, cs, R, r, cs1, h1, fun G1 H1 v f1 R1 ok1 y1 => ?_⟩
  obtain ⟨G2, t, o, l, pt, e, k⟩ := q G1 H1 v f1 R1 ok1 y1
  cases t with
  | list ts =>
    cases e
    obtain ⟨p, vs, rfl, hr, rs⟩ := pt.lst l
    exact ⟨p, vs, rfl, .inl hr, fun q nq => k _ _ _ (.own l nq) ⟨q, rfl, nq, l.dom _ nq, .lst upd_same rs.rev⟩⟩
  | _ => cases e
theorem se_revL {kk : Nat} {p1 p2 p3 pos : Pos} (he : SE X e m) : SE X (.Subscript e (.Slice none none (some (.UnaryOp .USub (.Constant (.int 1) kk p1) p2)) p3) pos) (mUn revT m) := PE.imp (pe_revL he) fun _ _ _ h => imp_rev h
end
end TL
namespace TL
open PySem PySem.Spec L2

/-! ### built-in functions -/
theorem callR_alt {X : Cx} {f : Value} {F F1 F2 : List T → Option Out} (h1 : CallR X f (rT X.K F1)) (h2 : CallR X f (rT X.K F2)) (h : ∀ ts o, F ts = some o → F1 ts = some o ∨ F2 ts = some o) : CallR X f (rT X.K F) := by
  refine CallR.imp (CallR.or h1 h2) fun xs H Q ⟨G, ts, o, l, ps, e, k⟩ => ?_
  rcases h ts o e with z | z
  · exact .inl ⟨G, ts, o, l, ps, z, k⟩
  · exact .inr ⟨G, ts, o, l, ps, z, k⟩
def lenT : List T → Option Out
  | [.list ts] => some (.fz (.int ts.length))
  | [.tuple ts] => some (.fz (.int ts.length))
  | [.str z] => if z.length ≤ sizeLine then some (.fz (.int z.length)) else none
  | _ => none
def listT : List T → Option Out
  | [.list ts] => some (.nw (.list ts))
  | [.tuple ts] => some (.nw (.list ts))
  | _ => none
def tupleT : List T → Option Out
  | [.list ts] => some (.fz (.tuple ts))
  | [.tuple ts] => some (.fz (.tuple ts))
  | _ => none
def intsOf : List T → Option (List Int)
  | [] => some []
  | .int i :: r => match intsOf r with
    | some is => some (i :: is)
    | none => none
  | _ => none
def boolsOf : List T → Option (List Bool)
  | [] => some []
  | .bool i :: r => match boolsOf r with
    | some is => some (i :: is)
    | none => none
  | _ => none
def sumT : List T → Option Out
  | [.list ts] => match intsOf ts with
    | some ns => some (.fz (.int ns.sum))
    | none => none
  | _ => none
def allT : List T → Option Out
  | [.list ts] => match boolsOf ts with
    | some bs => some (.fz (.bool (bs.all id)))
    | none => none
  | _ => none
def anyT : List T → Option Out
  | [.list ts] => match boolsOf ts with
    | some bs => some (.fz (.bool (bs.any id)))
    | none => none
  | _ => none
def absT : List T → Option Out
  | [.int i] => some (.fz (.int (if i < 0 then -i else i)))
  | _ => none
def max2T : List T → Option Out
  | [.int i, .int j] => some (.fz (.int (if j > i then j else i)))
  | _ => none
def min2T : List T → Option Out
  | [.int i, .int j] => some (.fz (.int (if j < i then j else i)))
  | _ => none
def toIntT : List T → Option Out
  | [.int i] => some (.fz (.int i))
  | [.bool b] => some (.fz (.int (if b then 1 else 0)))
  | _ => none
def maxL : List Int → Option Int
  | [] => none
  | x :: r => match maxL r with
    | none => some x
    | some m => some (if x < m then m else x)
def minL : List Int → Option Int
  | [] => none
  | x :: r => match minL r with
    | none => some x
    | some m => some (if m < x then m else x)
def maxT : List T → Option Out
  | [.list ts] => match intsOf ts with
    | some ns => (maxL ns).map fun m => .fz (.int m)
    | none => none
  | _ => none
def minT : List T → Option Out
  | [.list ts] => match intsOf ts with
    | some ns => (minL ns).map fun m => .fz (.int m)
    | none => none
  | _ => none
def insI (x : Int) : List Int → List Int
  | [] => [x]
  | y :: r => if y < x then y :: insI x r else x :: y :: r
def sortI : List Int → List Int
  | [] => []
  | x :: r => insI x (sortI r)
def sortedI : List T → Option Out
  | [.list ts] => match intsOf ts with
    | some ns => some (.nw (.list ((sortI ns).map PyData.int)))
    | none => none
  | _ => none
theorem insI_perm (x : Int) : ∀ l : List Int, (insI x l).Perm (x :: l)
  | [] => .refl _
  | y :: r => by
    unfold insI
    split
    · exact ((insI_perm x r).cons y).trans (.swap x y r)
    · exact .refl _
theorem sortI_perm : ∀ l : List Int, (sortI l).Perm l
  | [] => .refl _
  | x :: r => (insI_perm x (sortI r)).trans ((sortI_perm r).cons x)
theorem insI_sorted (x : Int) : ∀ l : List Int, l.Pairwise (· ≤ ·) → (insI x l).Pairwise (· ≤ ·)
  | [], _ => List.pairwise_singleton _ _
  | y :: r, h => by
    unfold insI
    rw [List.pairwise_cons] at h
    split
    · rename_i hy
      refine List.pairwise_cons.mpr ⟨fun z hz => ?_, insI_sorted x r h.2⟩
      rcases List.mem_cons.mp ((insI_perm x r).mem_iff.mp hz) with e | hz
      · omega
      · exact h.1 z hz
    · rename_i hy
      refine List.pairwise_cons.mpr ⟨fun z hz => ?_, List.pairwise_cons.mpr h⟩
      rcases List.mem_cons.mp hz with e | hz
      · omega
      · have := h.1 z hz; omega
theorem sortI_sorted : ∀ l : List Int, (sortI l).Pairwise (· ≤ ·)
  | [] => .nil
  | x :: r => insI_sorted x _ (sortI_sorted r)
theorem sorted_uniq : ∀ {l m : List Int}, l.Pairwise (· ≤ ·) → m.Pairwise (· ≤ ·) → l.Perm m → l = m := fun {l m} h1 h2 p => List.Perm.eq_of_pairwise (fun a b _ _ x y => Int.le_antisymm x y) h1 h2 p
section
variable {K : Fg} {G H : Hp}
theorem Rels.ints : ∀ {ts : List T} {vs : List V} {ns : List Int}, intsOf ts = some ns → Rels K G ts vs → vs = ns.map V.int ∧ ts = ns.map PyData.int
  | _, _, _, h, .nil => by cases h; exact ⟨rfl, rfl⟩
  | _, _, ns, h, .cons a r => by
    cases a with
    | int i =>
      simp only [intsOf] at h
      split at h
      · rename_i is his
        cases h
        obtain ⟨a, b⟩ := Rels.ints his r
        rw [a, b]
        exact ⟨rfl, rfl⟩
      · cases h
    | _ => cases h
theorem Rels.bools : ∀ {ts : List T} {vs : List V} {ns : List Bool}, boolsOf ts = some ns → Rels K G ts vs → vs = ns.map V.bl
  | _, _, _, h, .nil => by cases h; rfl
  | _, _, ns, h, .cons a r => by
    cases a with
    | bl i =>
      simp only [boolsOf] at h
      split at h
      · rename_i is his
        cases h
        rw [Rels.bools his r]
        rfl
      · cases h
    | _ => cases h
theorem rels_ints {ns : List Int} : Rels K G (ns.map PyData.int) (ns.map V.int) := by
  induction ns with
  | nil => exact .nil
  | cons n ns ih => exact .cons (.int n) ih
theorem Peeks.one {t : T} {vs : List V} : Peeks K G H [t] vs → ∃ v, vs = [v] ∧ Peek K G H t v
  | .cons a .nil => ⟨_, rfl, a⟩
theorem Peeks.two {t u : T} {vs : List V} : Peeks K G H [t, u] vs → ∃ v w, vs = [v, w] ∧ Peek K G H t v ∧ Peek K G H u w
  | .cons a (.cons b .nil) => ⟨_, _, rfl, a, b⟩
theorem maxL_ok : ∀ {ns : List Int} {m : Int}, maxL ns = some m → m ∈ ns ∧ ∀ y ∈ ns, y ≤ m
  | x :: r, m, h => by
    simp only [maxL] at h
    split at h
    · rename_i hr
      cases h
      cases r with
      | nil => exact ⟨List.mem_cons_self, fun y hy => by simp at hy; omega⟩
      | cons z r' => simp only [maxL] at hr; split at hr <;> cases hr
    · rename_i m' hr
      cases h
      obtain ⟨a, b⟩ := maxL_ok hr
      split
      · exact ⟨List.mem_cons_of_mem _ a, fun y hy => by rcases List.mem_cons.mp hy with e | hy; (· omega); (· exact b y hy)⟩
      · exact ⟨List.mem_cons_self, fun y hy => by rcases List.mem_cons.mp hy with e | hy; (· omega); (· have := b y hy; omega)⟩
theorem minL_ok : ∀ {ns : List Int} {m : Int}, minL ns = some m → m ∈ ns ∧ ∀ y ∈ ns, m ≤ y
  | x :: r, m, h => by
    simp only [minL] at h
    split at h
    · rename_i hr
      cases h
      cases r with
      | nil => exact ⟨List.mem_cons_self, fun y hy => by simp at hy; omega⟩
      | cons z r' => simp only [minL] at hr; split at hr <;> cases hr
    · rename_i m' hr
      cases h
      obtain ⟨a, b⟩ := minL_ok hr
      split
      · exact ⟨List.mem_cons_of_mem _ a, fun y hy => by rcases List.mem_cons.mp hy with e | hy; (· omega); (· exact b y hy)⟩
      · exact ⟨List.mem_cons_self, fun y hy => by rcases List.mem_cons.mp hy with e | hy; (· omega); (· have := b y hy; omega)⟩
end
section
variable {X : Cx}
theorem c_len : CallR X (.builtin "len") (rT X.K lenT) := by
  intro pins s σ H xs us Q I r ⟨G, ts, o, l, ps, e, k⟩
  unfold lenT at e
  split at e
  · rename_i ts
    cases e
    obtain ⟨v, rfl, p⟩ := ps.one
    obtain ⟨a, vs, rfl, hr, rs⟩ := p.lst l
    refine call_len_seq pins s σ H _ us Q I r ⟨a, vs, rfl, .inl (.inl hr), ?_⟩
    rw [rs.length]
    exact k G H _ (.refl l) (.int _)
  · rename_i ts
    cases e
    obtain ⟨v, rfl, p⟩ := ps.one
    obtain ⟨a, vs, rfl, hr, rs⟩ := p.tup l
    refine call_len_seq pins s σ H _ us Q I r ⟨a, vs, rfl, .inr (.inl (.inl (l.tp _ _ hr))), ?_⟩
    rw [rs.length]
    exact k G H _ (.refl l) (.int _)
  · rename_i z
    split at e
    · rename_i hz
      cases e
      obtain ⟨v, rfl, p⟩ := ps.one
      have := p.str
      subst this
      exact call_len_str pins s σ H _ us Q I r ⟨z, rfl, hz, k G H _ (.refl l) (.int _)⟩
    · cases e
  · cases e
theorem c_list : CallR X (.type "list") (rT X.K listT) := CallR.imp call_list_of fun xs H Q ⟨G, ts, o, l, ps, e, k⟩ => by
  unfold listT at e
  split at e
  · rename_i ts
    cases e
    obtain ⟨v, rfl, p⟩ := ps.one
    obtain ⟨a, vs, rfl, hr, rs⟩ := p.lst l
    exact ⟨a, vs, rfl, .inl (.inl hr), fun q nq => k _ _ _ (.own l nq) ⟨q, rfl, nq, l.dom _ nq, .lst upd_same rs⟩⟩
  · rename_i ts
    cases e
    obtain ⟨v, rfl, p⟩ := ps.one
    obtain ⟨a, vs, rfl, hr, rs⟩ := p.tup l
    exact ⟨a, vs, rfl, .inr (.inl (.inl (l.tp _ _ hr))), fun q nq => k _ _ _ (.own l nq) ⟨q, rfl, nq, l.dom _ nq, .lst upd_same rs⟩⟩
  · cases e
theorem c_tuple : CallR X (.type "tuple") (rT X.K tupleT) := CallR.imp call_tuple_of fun xs H Q ⟨G, ts, o, l, ps, e, k⟩ => by
  unfold tupleT at e
  split at e
  · rename_i ts
    cases e
    obtain ⟨v, rfl, p⟩ := ps.one
    obtain ⟨a, vs, rfl, hr, rs⟩ := p.lst l
    refine ⟨a, vs, rfl, .inl ⟨.inl hr, fun q nq => ?_⟩⟩
    have x := Ext.both l nq (o := .tup vs) trivial
    exact k _ _ _ x (.tup upd_same (rs.mono x.g))
  · rename_i ts
    cases e
    obtain ⟨v, rfl, p⟩ := ps.one
    obtain ⟨a, vs, rfl, hr, rs⟩ := p.tup l
    exact ⟨a, vs, rfl, .inr ⟨.inl (.inl (l.tp _ _ hr)), k G H _ (.refl l) (.tup hr rs)⟩⟩
  · cases e
theorem c_sum (hc : X.calm = true) : CallR X (.builtin "sum") (rT X.K sumT) := CallR.imp (cr_sum hc) fun xs H Q ⟨G, ts, o, l, ps, e, k⟩ => by
  unfold sumT at e
  split at e
  · rename_i ts
    split at e
    · rename_i ns hn
      cases e
      obtain ⟨v, rfl, p⟩ := ps.one
      obtain ⟨a, vs, rfl, hr, rs⟩ := p.lst l
      obtain ⟨ev, _⟩ := rs.ints hn
      subst ev
      exact ⟨a, ns, rfl, .inl hr, k G H _ (.refl l) (.int _)⟩
    · cases e
  · cases e
theorem c_all (hc : X.calm = true) : CallR X (.builtin "all") (rT X.K allT) := CallR.imp (cr_all hc) fun xs H Q ⟨G, ts, o, l, ps, e, k⟩ => by
  unfold allT at e
  split at e
  · rename_i ts
    split at e
    · rename_i ns hn
      cases e
      obtain ⟨v, rfl, p⟩ := ps.one
      obtain ⟨a, vs, rfl, hr, rs⟩ := p.lst l
      have ev := rs.bools hn
      subst ev
      exact ⟨a, ns, rfl, .inl hr, k G H _ (.refl l) (.bl _)⟩
    · cases e
  · cases e
theorem c_any (hc : X.calm = true) : CallR X (.builtin "any") (rT X.K anyT) := CallR.imp (cr_any hc) fun xs H Q ⟨G, ts, o, l, ps, e, k⟩ => by
  unfold anyT at e
  split at e
  · rename_i ts
    split at e
    · rename_i ns hn
      cases e
      obtain ⟨v, rfl, p⟩ := ps.one
      obtain ⟨a, vs, rfl, hr, rs⟩ := p.lst l
      have ev := rs.bools hn
      subst ev
      exact ⟨a, ns, rfl, .inl hr, k G H _ (.refl l) (.bl _)⟩
    · cases e
  · cases e
theorem c_max (hc : X.calm = true) : CallR X (.builtin "max") (rT X.K maxT) := CallR.imp (cr_max hc) fun xs H Q ⟨G, ts, o, l, ps, e, k⟩ => by
  unfold maxT at e
  split at e
  · rename_i ts
    split at e
    · rename_i ns hn
      obtain ⟨m, hm, rfl⟩ := Option.map_eq_some_iff.mp e
      obtain ⟨v, rfl, p⟩ := ps.one
      obtain ⟨a, vs, rfl, hr, rs⟩ := p.lst l
      obtain ⟨ev, _⟩ := rs.ints hn
      subst ev
      obtain ⟨h1, h2⟩ := maxL_ok hm
      refine ⟨a, ns, rfl, .inl hr, List.length_pos_of_mem h1, fun m' h1' h2' => ?_⟩
      have : m' = m := Int.le_antisymm (h2 m' h1') (h2' m h1)
      subst this
      exact k G H _ (.refl l) (.int _)
    · cases e
  · cases e
theorem c_min (hc : X.calm = true) : CallR X (.builtin "min") (rT X.K minT) := CallR.imp (cr_min hc) fun xs H Q ⟨G, ts, o, l, ps, e, k⟩ => by
  unfold minT at e
  split at e
  · rename_i ts
    split at e
    · rename_i ns hn
      obtain ⟨m, hm, rfl⟩ := Option.map_eq_some_iff.mp e
      obtain ⟨v, rfl, p⟩ := ps.one
      obtain ⟨a, vs, rfl, hr, rs⟩ := p.lst l
      obtain ⟨ev, _⟩ := rs.ints hn
      subst ev
      obtain ⟨h1, h2⟩ := minL_ok hm
      refine ⟨a, ns, rfl, .inl hr, List.length_pos_of_mem h1, fun m' h1' h2' => ?_⟩
      have : m' = m := Int.le_antisymm (h2' m h1) (h2 m' h1')
      subst this
      exact k G H _ (.refl l) (.int _)
    · cases e
  · cases e
theorem c_abs : CallR X (.builtin "abs") (rT X.K absT) := CallR.imp call_abs fun xs H Q ⟨G, ts, o, l, ps, e, k⟩ => by
  unfold absT at e
  split at e
  · rename_i i
    cases e
    obtain ⟨v, rfl, p⟩ := ps.one
    rw [p.int]
    exact ⟨i, rfl, k G H _ (.refl l) (.int _)⟩
  · cases e
theorem c_max2 (hc : X.calm = true) : CallR X (.builtin "max") (rT X.K max2T) := CallR.imp (call_max2 hc) fun xs H Q ⟨G, ts, o, l, ps, e, k⟩ => by
  unfold max2T at e
  split at e
  · rename_i i j
    cases e
    obtain ⟨v, w, rfl, p, q⟩ := ps.two
    rw [p.int, q.int]
    exact ⟨i, j, rfl, k G H _ (.refl l) (.int _)⟩
  · cases e
theorem c_min2 (hc : X.calm = true) : CallR X (.builtin "min") (rT X.K min2T) := CallR.imp (call_min2 hc) fun xs H Q ⟨G, ts, o, l, ps, e, k⟩ => by
  unfold min2T at e
  split at e
  · rename_i i j
    cases e
    obtain ⟨v, w, rfl, p, q⟩ := ps.two
    rw [p.int, q.int]
    exact ⟨i, j, rfl, k G H _ (.refl l) (.int _)⟩
  · cases e
theorem c_int : CallR X (.type "int") (rT X.K toIntT) := CallR.imp call_int1 fun xs H Q ⟨G, ts, o, l, ps, e, k⟩ => by
  unfold toIntT at e
  split at e
  · rename_i i
    cases e
    obtain ⟨v, rfl, p⟩ := ps.one
    rw [p.int]
    exact .inl ⟨i, rfl, k G H _ (.refl l) (.int _)⟩
  · rename_i b
    cases e
    obtain ⟨v, rfl, p⟩ := ps.one
    rw [p.bl]
    exact .inr ⟨b, rfl, k G H _ (.refl l) (.int _)⟩
  · cases e
theorem c_sortedI : CallR X (.builtin "sorted") (rT X.K sortedI) := CallR.imp cr_sortedI fun xs H Q ⟨G, ts, o, l, ps, e, k⟩ => by
  unfold sortedI at e
  split at e
  · rename_i ts
    split at e
    · rename_i ns hn
      cases e
      obtain ⟨v, rfl, p⟩ := ps.one
      obtain ⟨a, vs, rfl, hr, rs⟩ := p.lst l
      obtain ⟨ev, _⟩ := rs.ints hn
      subst ev
      refine ⟨a, ns, rfl, .inl hr, fun ns' q pm so nq => ?_⟩
      have : ns' = sortI ns := sorted_uniq so (sortI_sorted ns) (pm.trans (sortI_perm ns).symm)
      subst this
      exact k _ _ _ (.own l nq) ⟨q, rfl, nq, l.dom _ nq, .lst upd_same rels_ints⟩
    · cases e
  · cases e
end

/-! ### isinstance -/
def tyn : T → String
  | .none => "NoneType"
  | .bool _ => "bool"
  | .int _ => "int"
  | .str _ => "str"
  | .list _ => "list"
  | .tuple _ => "tuple"
  | .dict _ => "dict"
def isiB (a b : String) : Bool := a == b || (a == "bool" && b == "int")
def mIsi (n : String) (m : ME) : ME := fun cs => match m cs with
  | some (r, cs1) => match pk r cs1 with
    | some t => some (.fz (.bool (isiB (tyn t) n)), cs1)
    | none => none
  | none => none
/-- the classes that are asked for -/
def KnownTy (n : String) : Prop := ∀ t : T, kitB (tyn t) n = some (isiB (tyn t) n)
section
variable {X : Cx} {pins : List (Addr × Obj)} {σ : L2.St} {G H : Hp} {s : Shared} {e : Expr} {m : ME} {n : String} {Q : VK}
theorem known_of (h : (["NoneType", "bool", "int", "str", "list", "tuple", "dict"].all fun a => kitB a n == some (isiB a n)) = true) : KnownTy n := fun t => by
  simp only [List.all_cons, List.all_nil, Bool.and_true, Bool.and_eq_true, beq_iff_eq] at h
  cases t <;> simp only [tyn] <;> simp only [h]
theorem kit_tree {t : T} {v : V} {u : Value} (I : Inv X pins σ H s) (l : Le G H) (p : Peek X.K G H t v) (r : RelV v u) : ∃ P : Heap → Prop, PySem.W.KitX X.K u (.type (tyn t)) P ∧ P s.heap ∧ u ≠ .builtin "__main__.__loader__#opaque" := by
  have q := p.rel l
  cases q with
  | non => cases r; exact ⟨_, PySem.W.kitx_none, trivial, fun z => nomatch z⟩
  | bl b => cases r; exact ⟨_, PySem.W.kitx_bool, trivial, fun z => nomatch z⟩
  | int i => obtain ⟨t, rfl⟩ := r; exact ⟨_, PySem.W.kitx_int, trivial, fun z => nomatch z⟩
  | str i => obtain ⟨t, rfl⟩ := r; exact ⟨_, PySem.W.kitx_str, trivial, fun z => nomatch z⟩
  | lst h _ =>
    cases r
    obtain ⟨_, _, n, _, h1⟩ := h.ok I.hok
    exact ⟨_, PySem.W.kitx_list, ⟨_, h1, rfl⟩, fun z => nomatch z⟩
  | tup h _ =>
    cases r
    obtain ⟨_, _, _, o, h1, h2, _⟩ := I.hok _ _ h
    exact ⟨_, PySem.W.kitx_tuple, ⟨o, h1, h2⟩, fun z => nomatch z⟩
  | dk h _ =>
    cases r
    obtain ⟨_, _, vs, _, o, es, ep, h1, h2, _⟩ := h.ok I.hok
    exact ⟨_, PySem.W.kitx_dict, ⟨o, h1, h2.1⟩, fun z => nomatch z⟩
  | dt h _ =>
    cases r
    obtain ⟨_, _, xs, _, o, es, ep, h1, h2, _⟩ := h.ok I.hok
    exact ⟨_, PySem.W.kitx_dict, ⟨o, h1, h2.1⟩, fun z => nomatch z⟩
def rIsiN (K : Fg) (n : String) : List V → Hp → VK → Prop := fun xs H Q => ∃ G t v, xs = [v, .ty n] ∧ Le G H ∧ Peek K G H t v ∧ Q (.bl (isiB (tyn t) n)) H
theorem call_isiN (hk : KnownTy n) : CallR X (.builtin "isinstance") (rIsiN X.K n) := by
  intro pins s σ H xs us Q I r ⟨G, t, v, e, l, p, q⟩
  subst e
  obtain ⟨u1, u2, rfl, r1, r2⟩ := r.two
  cases (show u2 = Value.type n from r2)
  obtain ⟨P, Z, pz, hx⟩ := kit_tree I l p r1
  exact PySem.W.kia_one Z I.kIn pz (kit_ty (hk t)) hx fun tk => ⟨.bl _, H, I.tok tk, rfl, q⟩
theorem imp_isi (h : tS X.K (mIsi n m) σ H Q) : tCB (rIsiN X.K n) (tCons (tS X.K m) (tCons (tC (.ty n)) tNil)) σ H Q := by
  obtain ⟨G, cs, R, r, cs', e, k⟩ := h
  simp only [mIsi] at e
  split at e
  · rename_i r0 cs1 h1
    split at e
    · rename_i t ht
      cases e
      refine ⟨G, cs, R, r0, _, h1, fun G1 H1 v f1 R1 ok1 y1 => ?_⟩
      exact ⟨G1, t, v, rfl, R1.le, ok1.peek R1 ht, k G1 H1 _ f1 R1 (.bl _) trivial⟩
    · cases e
  · cases e
theorem se_isi {x : Str} {p pos p2 : Pos} (hk : KnownTy n) (hg : Gl X "isinstance") (hm : X.mg "isinstance" = none) (he : SE X e m) (hgn : Gl X x) (hmn : X.mg x = none) (hv : bootBuiltins x = some (.type n)) (hn : x ≠ "__name__" := by decide) (hdb : (x == ("__debug__" : Str)) = false := by decide)
    (s1 : starEach [e, .Name x p2] X.env = (false, eval e X.env) :: starEach [.Name x p2] X.env := by rfl) (s2 : starEach [.Name x p2] X.env = (false, eval (.Name x p2) X.env) :: starEach [] X.env := by rfl)
    (hpl : (backTo pos (starEach [.Name x p2] X.env)).any (·.1) = false := by rfl) :
    SE X (.Call (.Name "isinstance" p) [e, .Name x p2] [] pos) (mIsi n m) :=
  PE.imp (pe_callB (call_isiN hk) hg hm (by decide +kernel) (pa_cons he (pa_cons (pe_bltn (v := .ty n) hgn hmn hv (by rfl) hn hdb) pa_nil s2) s1) (by decide) (by decide) s1 hpl) fun _ _ _ h => imp_isi h
end
/-! ### dict displays, get -/
def mDict0 : ME := fun cs => some (.nw (.dict []), cs)
def mGet1 (md mk : ME) : ME := fun cs => match md cs with
  | some (rd, cs1) => match pk rd cs1 with
    | some (.dict _) => match mk cs1 with
      | some (rk, cs2) => match pk rd cs2, pk rk cs2 with
        | some (.dict kvs), some k => match dFind kvs k with
          | some (some t) => some (.fz t, cs2)
          | some none => some (.fz .none, cs2)
          | none => none
        | _, _ => none
      | none => none
    | _ => none
  | none => none
def mGet2 (md mk mx : ME) : ME := fun cs => match md cs with
  | some (rd, cs1) => match pk rd cs1 with
    | some (.dict _) => match mk cs1 with
      | some (rk, cs2) => match mFz mx cs2 with
        | some (.fz x, cs3) => match pk rd cs3, pk rk cs3 with
          | some (.dict kvs), some k => match dFind kvs k with
            | some (some t) => some (.fz t, cs3)
            | some none => some (.fz x, cs3)
            | none => none
          | _, _ => none
        | _ => none
      | none => none
    | _ => none
  | none => none
def tGet1 (td ty : TE) : TE := fun σ H Q => td σ H fun x H1 => ∃ a, x = .ref a ∧ IsD H1 a ∧ ty σ H1 fun y H2 => ∃ o, DG H2 a y o ∧ Q (o.getD .non) H2
def tGet2 (td ty tx : TE) : TE := fun σ H Q => td σ H fun x H1 => ∃ a, x = .ref a ∧ IsD H1 a ∧ ty σ H1 fun y H2 => tx σ H2 fun z H3 => ∃ o, DG H3 a y o ∧ Q (o.getD z) H3
section
variable {X : Cx} {K : Fg} {σ : L2.St} {H : Hp} {Q : VK} {o e f : Expr} {apos cpos pos : Pos} {td ty tx : TE} {md mk mx : ME}
theorem se_dict0 : SE X (.Dict [] [] pos) mDict0 := PE.imp pe_dnewK fun σ H Q ⟨G, cs, R, r, cs', e, k⟩ => by
  cases e
  intro p np
  have x := Ext.own R.le np (o := .dK [])
  exact k _ _ _ (.ext x) (R.ext x) ⟨p, rfl, R.le.dom p np, .dk upd_same .nil, fun z => (R.own_ne z).1 np⟩ fun q e => by cases e; exact np
theorem pe_get1 (hu : X.A.units + 1 < cLine) (ho : PE X o td) (he : PE X e ty) (m : M1 X o "get" apos e cpos) : PE X (.Call (.Attribute o "get" apos) [e] [] cpos) (tGet1 td ty) := by
  refine ⟨fun pins s σ H Q I h => ?_⟩
  refine wpAny_Call_method m.base m.few m.line PySem.F.plainAttrs_dict PySem.F.slot_dict_get PySem.F.type_dict_get (thn (ho.run pins s σ H _ I h) fun u s1 ⟨x, H1, I1, rx, a, ex, d, q1⟩ => ?_)
  subst ex
  cases rx
  obtain ⟨t1, t2, _⟩ := isD_at I1 d
  refine ⟨t1, t2, ?_⟩
  rw [m.trees]
  refine Calls.callWith_builtin rfl (Calls.evalArgs_plain (Calls.spliced_cons (thn (he.run pins s1 σ H1 _ I1 q1) fun iv s2 ⟨y, H2, I2, ry, ov, g, q2⟩ => Calls.spliced_nil ?_)))
  exact dg_get1 hu I2 g ry fun w' s3 I3 rw' => ⟨_, H2, I3, rw', q2⟩
theorem pe_get2 (hu : X.A.units + 1 < cLine) (ho : PE X o td) (he : PE X e ty) (hf : PE X f tx) (m : M2 X o "get" apos e f cpos) : PE X (.Call (.Attribute o "get" apos) [e, f] [] cpos) (tGet2 td ty tx) := by
  refine ⟨fun pins s σ H Q I h => ?_⟩
  refine wpAny_Call_method m.base m.few m.line PySem.F.plainAttrs_dict PySem.F.slot_dict_get PySem.F.type_dict_get (thn (ho.run pins s σ H _ I h) fun u s1 ⟨x, H1, I1, rx, a, ex, d, q1⟩ => ?_)
  subst ex
  cases rx
  obtain ⟨t1, t2, _⟩ := isD_at I1 d
  refine ⟨t1, t2, ?_⟩
  rw [m.trees]
  refine Calls.callWith_builtin rfl (Calls.evalArgs_plain (Calls.spliced_cons (thn (he.run pins s1 σ H1 _ I1 q1) fun iv s2 ⟨y, H2, I2, ry, q2⟩ =>
    Calls.spliced_cons (thn (hf.run pins s2 σ H2 _ I2 q2) fun fv s3 ⟨z, H3, I3, rz, ov, g, q3⟩ => Calls.spliced_nil ?_))))
  exact dg_get2 hu I3 g ry rz fun w' s4 I4 rw' => ⟨_, H3, I4, rw', q3⟩
theorem peek_isD {G : Hp} {kvs : List (T × T)} {v : V} (l : Le G H) (p : Peek K G H (.dict kvs) v) : ∃ a, v = .ref a ∧ IsD H a := by
  obtain ⟨a, rfl, h⟩ := p.dict l
  rcases h with ⟨kk, h, _⟩ | ⟨kk, h, _⟩
  · exact ⟨a, rfl, .inl ⟨kk, h⟩⟩
  · exact ⟨a, rfl, .inr ⟨kk, h⟩⟩
theorem imp_get1 (h : tS K (mGet1 md mk) σ H Q) : tGet1 (tS K md) (tS K mk) σ H Q := by
  obtain ⟨G, cs, R, r, cs', e, k⟩ := h
  simp only [mGet1] at e
  split at e
  · rename_i rd cs1 h1
    split at e
    · rename_i k0 hk0
      split at e
      · rename_i rk cs2 h2
        split at e
        · rename_i kvs kt hd hk
          refine ⟨G, cs, R, rd, cs1, h1, fun G1 H1 v f1 R1 ok1 y1 => ?_⟩
          obtain ⟨a, ev, isd⟩ := peek_isD R1.le (ok1.peek R1 hk0)
          subst ev
          refine ⟨a, rfl, isd, G1, cs1, R1, rk, cs2, h2, fun G2 H2 w f2 R2 ok2 y2 => ?_⟩
          have fin : ∀ {ot : Option T}, dFind kvs kt = some ot → ∃ ov, DG H2 a w ov ∧ Got K G2 ot ov := fun {ot} hf => by
            obtain ⟨a', ov, ea, g, _, got⟩ := peek_dg R2.le ((ok1.mono f2).peek R2 hd) (ok2.peek R2 hk) hf
            cases ea
            exact ⟨ov, g, got⟩
          split at e
          · rename_i t hf
            cases e
            obtain ⟨ov, g, got⟩ := fin hf
            obtain ⟨v', eo, rel⟩ := got
            subst eo
            exact ⟨_, g, k G2 H2 _ (f1.trans f2) R2 rel trivial⟩
          · rename_i hf
            cases e
            obtain ⟨ov, g, got⟩ := fin hf
            cases (show ov = none from got)
            exact ⟨_, g, k G2 H2 _ (f1.trans f2) R2 .non trivial⟩
          · cases e
        · cases e
      · cases e
    · cases e
  · cases e
theorem imp_get2 (h : tS K (mGet2 md mk mx) σ H Q) : tGet2 (tS K md) (tS K mk) (tS K mx) σ H Q := by
  obtain ⟨G, cs, R, r, cs', e, k⟩ := h
  simp only [mGet2] at e
  split at e
  · rename_i rd cs1 h1
    split at e
    · rename_i k0 hk0
      split at e
      · rename_i rk cs2 h2
        split at e
        · rename_i tx cs3 h3
          split at e
          · rename_i kvs kt hd hk
            refine ⟨G, cs, R, rd, cs1, h1, fun G1 H1 v f1 R1 ok1 y1 => ?_⟩
            obtain ⟨a, ev, isd⟩ := peek_isD R1.le (ok1.peek R1 hk0)
            subst ev
            refine ⟨a, rfl, isd, G1, cs1, R1, rk, cs2, h2, fun G2 H2 w f2 R2 ok2 y2 => ?_⟩
            refine imp_fz ⟨G2, cs2, R2, _, _, h3, fun G3 H3 z f3 R3 ok3 y3 => ?_⟩
            have ff := (f1.trans f2).trans f3
            have fin : ∀ {ot : Option T}, dFind kvs kt = some ot → ∃ ov, DG H3 a w ov ∧ Got K G3 ot ov := fun {ot} hf => by
              obtain ⟨a', ov, ea, g, _, got⟩ := peek_dg R3.le (((ok1.mono f2).mono f3).peek R3 hd) ((ok2.mono f3).peek R3 hk) hf
              cases ea
              exact ⟨ov, g, got⟩
            split at e
            · rename_i t hf
              cases e
              obtain ⟨ov, g, got⟩ := fin hf
              obtain ⟨v', eo, rel⟩ := got
              subst eo
              exact ⟨_, g, k G3 H3 _ ff R3 rel trivial⟩
            · rename_i hf
              cases e
              obtain ⟨ov, g, got⟩ := fin hf
              cases (show ov = none from got)
              exact ⟨_, g, k G3 H3 _ ff R3 ok3 trivial⟩
            · cases e
          · cases e
        · cases e
      · cases e
    · cases e
  · cases e
theorem se_get1 (hu : X.A.units + 1 < cLine) (ho : SE X o md) (he : SE X e mk) (m : M1 X o "get" apos e cpos) : SE X (.Call (.Attribute o "get" apos) [e] [] cpos) (mGet1 md mk) := PE.imp (pe_get1 hu ho he m) fun _ _ _ h => imp_get1 h
theorem se_get2 (hu : X.A.units + 1 < cLine) (ho : SE X o md) (he : SE X e mk) (hf : SE X f mx) (m : M2 X o "get" apos e f cpos) : SE X (.Call (.Attribute o "get" apos) [e, f] [] cpos) (mGet2 md mk mx) := PE.imp (pe_get2 hu ho he hf m) fun _ _ _ h => imp_get2 h
end
/-! a written dict with texts as keys -/
def mPairs : List (Str × ME) → Cs → Option (List (Str × T) × Cs)
  | [], cs => some ([], cs)
  | (x, m) :: r, cs => match mFz m cs with
    | some (.fz t, cs1) => match mPairs r cs1 with
      | some (ps, cs2) => some ((x, t) :: ps, cs2)
      | none => none
    | _ => none
def mDisp (ps : List (Str × ME)) : ME := fun cs => match mPairs ps cs with
  | some (kts, cs1) => if kts.length ≤ 15 ∧ (kts.map (·.1)).Nodup then some (.nw (.dict (kts.map fun p => (.str p.1, p.2))), cs1) else none
  | none => none
section
variable {X : Cx} {K : Fg} {σ : L2.St} {H : Hp} {Q : VK} {ps : List (Str × ME)} {keys : List (Option Expr)} {values : List Expr} {pos : Pos}
theorem imp_pairs : ∀ {ps : List (Str × ME)} {G H : Hp} {cs cs' : Cs} {kts : List (Str × T)} {Q : List (V × V) → Hp → Prop}, SR K G H cs σ → mPairs ps cs = some (kts, cs') →
    (∀ G' H' vs, FrE σ G H cs G' H' cs' → SR K G' H' cs' σ → Rels K G' (kts.map (·.2)) vs → Q ((kts.zip vs).map fun p => (.str p.1.1, p.2)) H') →
    tPairs (ps.map fun p => (tC (.str p.1), tS K p.2)) σ H Q
  | [], G, H, cs, cs', kts, Q, R, e, k => by
    cases e
    exact k G H [] .refl R .nil
  | (x, m) :: r, G, H, cs, cs', kts, Q, R, e, k => by
    simp only [mPairs] at e
    split at e
    · rename_i t cs1 h1
      split at e
      · rename_i ps cs2 h2
        cases e
        refine imp_fz ⟨G, cs, R, _, _, h1, fun G1 H1 v f1 R1 ok1 y1 => ?_⟩
        refine imp_pairs R1 h2 fun G2 H2 vs f2 R2 rs => ?_
        exact k G2 H2 (v :: vs) (f1.trans f2) R2 (.cons (Rel.mono f2.g ok1) rs)
      · cases e
    · cases e
theorem putK_new {κ : Type} [DecidableEq κ] {r : List (κ × V)} {k : κ} {v : V} (h : ∀ p ∈ r, p.1 ≠ k) : putK r k v = r ++ [(k, v)] := by
  unfold putK
  rw [if_neg]
  rw [Bool.not_eq_true, List.any_eq_false]
  exact fun p hp => by simpa using h p hp
theorem mergeK_new : ∀ (more kvs : List (Key × V)), ((kvs ++ more).map (·.1)).Nodup → mergeK kvs more = kvs ++ more
  | [], kvs, _ => by rw [List.append_nil]; rfl
  | p :: more, kvs, h => by
    show mergeK (putK kvs p.1 p.2) more = _
    have h' := h
    rw [List.map_append, List.map_cons, List.nodup_append] at h
    rw [putK_new (fun q hq e => h.2.2 q.1 (List.mem_map.mpr ⟨q, hq, rfl⟩) p.1 List.mem_cons_self e)]
    rw [mergeK_new more (kvs ++ [(p.1, p.2)]) (by simpa using h')]
    simp
theorem imp_disp (h : tS K (mDisp ps) σ H Q) : tDisp (ps.map fun p => (tC (.str p.1), tS K p.2)) σ H Q := by
  obtain ⟨G, cs, R, r, cs', e, k⟩ := h
  simp only [mDisp] at e
  split at e
  · rename_i kts cs1 h1
    split at e
    · rename_i hc
      cases e
      intro p np
      have x := Ext.own R.le np (o := .dK [])
      have R1 := R.ext x
      have no : ¬ OwnAt cs σ p := fun z => (R.own_ne z).1 np
      refine imp_pairs R1 h1 fun G2 H2 vs f2 R2 rs => ?_
      have hp2 : H2 p = some (.dK []) := f2.keep p _ upd_same no
      have gp2 : G2 p = none := f2.gfr p ⟨_, upd_same, fun _ z => nomatch z⟩ (R.le.dom p np) no
      have nop2 : ¬ OwnAt cs' σ p := fun z => by
        rcases f2.own p z with z | z
        · exact no z
        · rw [upd_same] at z; cases z
      have hlen := rs.length
      rw [List.length_map] at hlen
      refine ⟨hp2, (kts.zip vs).map fun q => (Sum.inr q.1.1, q.2), by simp [kV], ?_, ?_⟩
      · rw [List.length_map, List.length_zip]; have := hc.1; omega
      · have hm : ((kts.zip vs).map fun q : (Str × T) × V => ((Sum.inr q.1.1 : Key), q.2)).map (·.1) = (kts.map (·.1)).map Sum.inr := by
          rw [List.map_map, List.map_map]
          have : (kts.zip vs).map (fun q => q.1) = kts := by rw [List.map_fst_zip (by omega)]
          conv => rhs; rw [← this]
          rw [List.map_map]
          rfl
        rw [mergeK_new _ [] (by
          rw [List.nil_append, hm]
          exact List.Pairwise.map _ (fun a b n e => n (Sum.inr.inj e)) hc.2), List.nil_append]
        have off : ∀ q, q ≠ p → (upd H2 p (.dK ((kts.zip vs).map fun q => ((Sum.inr q.1.1 : Key), q.2)))) q = H2 q := fun q ne => upd_ne ne
        have own : Own K G2 (upd H2 p (.dK ((kts.zip vs).map fun q => ((Sum.inr q.1.1 : Key), q.2)))) (.dict (kts.map fun p => (.str p.1, p.2))) p := by
          refine .dk upd_same ?_
          clear hm hlen off f2 R2 hc k h1
          induction kts generalizing vs with
          | nil => cases rs; exact .nil
          | cons q kts ih =>
            cases rs with
            | cons a b => exact .cons rfl a (ih _ b)
        have le2 : Le G2 (upd H2 p (.dK ((kts.zip vs).map fun q => ((Sum.inr q.1.1 : Key), q.2)))) := R2.le.off gp2 off (by rw [upd_same]; simp)
        refine k G2 _ _ ?_ ?_ ⟨p, rfl, gp2, own, nop2⟩ fun q e => by cases e; exact np
        · have f := (FrE.ext x : FrE σ G H cs _ _ cs).trans f2
          refine ⟨⟨f.g, fun q o a b => ?_, f.gfr, f.own, fun q n => ?_, f.bo, f.bo'⟩, f.fzk, f.live, f.back⟩
          · have ne : q ≠ p := by rintro rfl; rw [np] at a; cases a
            rw [upd_ne ne]; exact f.keep q o a b
          · have ne : q ≠ p := by rintro rfl; exact n np
            rw [upd_ne ne]; exact f.hmo q n
        · refine ⟨le2, R2.len, R2.fz, fun j t a => ?_, R2.apart⟩
          obtain ⟨q, sq, y, z⟩ := R2.ow j t a
          have ne : q ≠ p := fun ez => nop2 ⟨j, t, a, ez ▸ sq⟩
          exact ⟨q, sq, y, z.mono (.refl _) (upd_ne ne)⟩
    · cases e
  · cases e
theorem se_disp (h : PPs X pos keys values (ps.map fun p => (tC (.str p.1), tS X.K p.2))) (hall : keys.all (·.isSome) = true) (hl : keys.length = values.length) (h0 : keys ≠ []) (h15 : keys.length ≤ 15) : SE X (.Dict keys values pos) (mDisp ps) := PE.imp (pe_disp h hall hl h0 h15) fun _ _ _ q => imp_disp q
end
end TL
namespace TL
open PySem PySem.Spec L2

/-! ### short words for the printed terms -/
section
variable {X : Cx} {pos : Pos} {k : Nat}
theorem sv (i : Nat) {x : Str} (hN : X.N[i]? = some x := by rfl) (hv : Vis X.env.scope x := by first | exact Or.inl rfl | exact Or.inr (Or.inl rfl) | exact Or.inr (Or.inr rfl)) (hd : (x == ("__debug__" : Str)) = false := by decide)
    (hcd : (x == ("__classdict__" : Str)) = false := by decide) : SE X (.Name x pos) (mV i) := se_var hN hv hd hcd
theorem hu1 (hr : Room k X.A) : X.A.units + 1 < cLine := by have := hr.un; omega
theorem hu64 (hr : Room k X.A) : X.A.units + 64 < cLine := by have := hr.un; omega
theorem hu65 (hr : Room k X.A) : X.A.units + 65 < cLine := by have := hr.un; omega
def augT : T → T → Option Out
  | .int i, .int j => some (.fz (.int (i + j)))
  | .str x, .str y => if x.length + y.length ≤ sizeLine then some (.fz (.str (x ++ y))) else none
  | _, _ => none
theorem p_add : PIp X .Add (r2T X.K augT) := by
  intro pins s σ H x y v u Q I rx ry ⟨G, a, b, o, l, pa, pb, e, k⟩
  cases a with
  | int i =>
    cases b with
    | int j =>
      cases e
      exact ip_add pins s σ H x y v u Q I rx ry ⟨i, j, pa.int, pb.int, k G H _ (.refl l) (.int _)⟩
    | _ => cases e
  | str i =>
    cases b with
    | str j =>
      simp only [augT] at e
      split at e
      · rename_i hl
        cases e
        exact iop_add_str pins s σ H x y v u Q I rx ry ⟨i, j, pa.str, pb.str, hl, k G H _ (.refl l) (.str _)⟩
      · cases e
    | _ => cases e
  | _ => cases e
theorem p_sub : PIp X .Sub (r2T X.K subT) := by
  intro pins s σ H x y v u Q I rx ry ⟨G, a, b, o, l, pa, pb, e, k⟩
  cases a with
  | int i =>
    cases b with
    | int j =>
      simp only [subT, intF, if_true] at e
      cases e
      exact ip_sub pins s σ H x y v u Q I rx ry ⟨i, j, pa.int, pb.int, k G H _ (.refl l) (.int _)⟩
    | _ => cases e
  | _ => cases e
/-- [..] * n, a new list -/
def mRep (ma mb : ME) : ME := fun cs => match ma cs with
  | some (.nw (.list ts), cs1) => match mb cs1 with
    | some (.fz (.int n), cs2) => if -(2 ^ 63) ≤ n ∧ n < 2 ^ 63 ∧ ts.length * n.toNat ≤ sizeLine then some (.nw (.list (List.replicate n.toNat ts).flatten), cs2) else none
    | _ => none
  | _ => none
theorem rep_rels {K : Fg} {G : Hp} {ts : List T} {vs : List V} (rs : Rels K G ts vs) : ∀ m : Nat, Rels K G (List.replicate m ts).flatten (List.replicate m vs).flatten
  | 0 => .nil
  | m + 1 => by rw [List.replicate_succ, List.replicate_succ, List.flatten_cons, List.flatten_cons]; exact rs.app (rep_rels rs m)
theorem imp_rep {K : Fg} {σ : L2.St} {H : Hp} {Q : VK} {ma mb : ME} (h : tS K (mRep ma mb) σ H Q) : tOp rRep (tS K ma) (tS K mb) σ H Q := by
  obtain ⟨G, cs, R, r, cs', e, k⟩ := h
  simp only [mRep] at e
  split at e
  · rename_i ts cs1 h1
    split at e
    · rename_i n cs2 h2
      split at e
      · rename_i hc
        cases e
        refine ⟨G, cs, R, _, _, h1, fun G1 H1 v f1 R1 ok1 y1 => ⟨G1, cs1, R1, _, _, h2, fun G2 H2 w f2 R2 ok2 y2 => ?_⟩⟩
        obtain ⟨p, rfl, gp, ow, no⟩ := ok1.mono f2
        cases ok2
        cases ow with
        | @lst _ vs0 _ hp rs =>
          have ff := f1.trans f2
          refine ⟨p, n, _, rfl, rfl, hp, hc.1, hc.2.1, by rw [rs.length]; exact hc.2.2, fun q nq => ?_⟩
          have x := Ext.own (o := .lst (List.replicate n.toNat vs0).flatten) R2.le nq
          exact k _ _ _ (ff.trans (.ext x)) (R2.ext x) ⟨q, rfl, R2.le.dom q nq, .lst upd_same (rep_rels rs _), fun z => (R2.own_ne z).1 nq⟩ fun q' e => by cases e; exact ff.toFr.dom q nq
      · cases e
    · cases e
  · cases e
theorem se_rep {a b : Expr} {ma mb : ME} (ha : SE X a ma) (hb : SE X b mb) : SE X (.BinOp a .Mult b pos) (mRep ma mb) := PE.imp (pe_op op_rep ha hb) fun _ _ _ h => imp_rep h
def sRetN : MS := fun cs => some (.rt (.fz .none), cs)
theorem ss_retN : SS X (.Return none pos) sRetN := PS.imp ps_retN fun D σ H ⟨G, cs, R, fl, cs', e, k⟩ => by
  cases e
  exact k σ G H .non .refl R .non
end
/-! ### the end of a law's row -/
def fuel : Nat := 1000000
theorem mem_lk {K : Fg} {a : Addr} {o : Obj} (e : K.lookup a = some o) : ∃ b, (b, o) ∈ K := by
  induction K with
  | nil => cases e
  | cons p r ih =>
    rw [List.lookup_cons] at e
    generalize hb : (a == p.1) = b at e
    cases b with
    | true => exact ⟨p.1, by cases e; exact List.mem_cons_self⟩
    | false =>
      obtain ⟨c, h⟩ := ih e
      exact ⟨c, List.mem_cons_of_mem _ h⟩
theorem no_list {K : Fg} (h : (K.all fun p => !(p.2.cls == .type "list")) = true) {a : Addr} {o : Obj} (e : K.lookup a = some o) : o.cls ≠ .type "list" := fun c => by
  obtain ⟨b, m⟩ := mem_lk e
  have q := List.all_eq_true.mp h _ m
  have q2 : (o.cls == Value.type "list") = true := by rw [c]; exact beq_self_eq_true _
  rw [show ((b, o).2.cls == Value.type "list") = true from q2] at q
  cases q
theorem law_sp {K : Fg} {F : FN} {H : Hp} {a : Addr} {ns : List Int} (hK : (K.all fun p => !(p.2.cls == .type "list")) = true) (hS : SqL K H a (ns.map V.int)) (h : ∃ cs', F [.fz (.list (ns.map PyData.int))] = some (.fz (.bool true), cs')) :
    spS K 1 F [.ref a] H (fun v _ => v = .bl true) fun _ _ _ => False := by
  obtain ⟨cs', e⟩ := h
  have rd : Rd H a (.lst (ns.map V.int)) := by
    rcases hS with h | ⟨o, its, n, lk, c, _⟩
    · exact h
    · exact absurd c (no_list hK lk)
  refine ⟨H, _, rfl, args_sr (ts := [.list (ns.map PyData.int)]) (vs := [.ref a]) (.refl _) (.cons (.lst rd rels_ints) .nil), args_no (ts := [_]), _, cs', e, fun G' H' v post => ?_⟩
  have := post.out
  cases this
  rfl
end TL
namespace TL
open PySem PySem.Spec L2 RZ

/-! ### zip of two lists or of two tuples -/
def zipT : List T → List T → List T := List.zipWith fun a b => .tuple [a, b]
def iZip (ms : MA) : MI := fun cs => match ms cs with
  | some ([.fz (.list ts), .fz (.list us)], cs1) => some (zipT ts us, cs1)
  | some ([.fz (.tuple ts), .fz (.tuple us)], cs1) => some (zipT ts us, cs1)
  | _ => none
section
variable {K : Fg} {G H : Hp} {σ : L2.St}
theorem zip_get : ∀ {ts us : List T} {i : Nat} {t : T}, (zipT ts us)[i]? = some t → ∃ a b, ts[i]? = some a ∧ us[i]? = some b ∧ t = .tuple [a, b]
  | [], _, i, t, h => by simp [zipT] at h
  | _ :: _, [], i, t, h => by simp [zipT] at h
  | a :: ts, b :: us, 0, t, h => by
    simp [zipT] at h
    exact ⟨a, b, rfl, rfl, h.symm⟩
  | a :: ts, b :: us, i + 1, t, h => by
    obtain ⟨x, y, h1, h2, h3⟩ := zip_get (ts := ts) (us := us) (i := i) (t := t) (by simpa [zipT] using h)
    exact ⟨x, y, by simpa using h1, by simpa using h2, h3⟩
theorem zip_end {ts us : List T} {i : Nat} (h : (zipT ts us).length ≤ i) : ts.length ≤ i ∨ us.length ≤ i := by
  rw [zipT, List.length_zipWith] at h
  omega
theorem walks_pair {J : It} {ts us : List T} {xs ys : List V} {SA SB : Hp → List V → Prop} (hxs : Rels K G ts xs) (hys : Rels K G us ys)
    (ha : ∀ G1 H1, Le G G1 → Le G1 H1 → SA H1 xs) (hb : ∀ G1 H1, Le G G1 → Le G1 H1 → SB H1 ys)
    (go : ∀ i H, (∃ (xs ys : List V) (x y : V), SA H xs ∧ SB H ys ∧ xs[i]? = some x ∧ ys[i]? = some y) → J.go i H)
    (yl : ∀ i H v H', J.yld i H v H' → ∃ T x y, v = .ref T ∧ H T = none ∧ H' = upd H T (.tup [x, y]) ∧ (∀ xs, SA H xs → xs[i]? = some x) ∧ ∀ ys, SB H ys → ys[i]? = some y)
    (sp : ∀ i H, (∃ xs ys : List V, SA H xs ∧ SB H ys ∧ (xs.length ≤ i ∨ ys.length ≤ i)) → J.stop i H) : Walks K G (zipT ts us) J := by
  refine ⟨fun i G1 H1 t l1 l2 e => ?_, fun i G1 H1 l1 l2 e => sp i H1 ⟨xs, ys, ha G1 H1 l1 l2, hb G1 H1 l1 l2, ?_⟩⟩
  · obtain ⟨a, b, ea, eb, rfl⟩ := zip_get e
    obtain ⟨x, ex, rx⟩ := hxs.get ea
    obtain ⟨y, ey, ry⟩ := hys.get eb
    refine ⟨go i H1 ⟨xs, ys, x, y, ha G1 H1 l1 l2, hb G1 H1 l1 l2, ex, ey⟩, fun v H2 h => ?_⟩
    obtain ⟨T, x', y', rfl, hT, rfl, h1, h2⟩ := yl i H1 v H2 h
    have e1 := h1 xs (ha G1 H1 l1 l2)
    have e2 := h2 ys (hb G1 H1 l1 l2)
    rw [ex] at e1; cases e1
    rw [ey] at e2; cases e2
    have x2 := Ext.both (o := .tup [x, y]) l2 hT trivial
    exact ⟨_, x2, .tup upd_same (.cons ((rx.mono l1).mono x2.g) (.cons ((ry.mono l1).mono x2.g) .nil))⟩
  · rw [hxs.length, hys.length]
    exact zip_end e
theorem imp_zip {ms : MA} {R : It → Hp → Prop} (h : iS K (iZip ms) σ H R) : iZipA K (tA K ms) σ H R := by
  obtain ⟨G, cs, SRr, ts, cs', e, k⟩ := h
  simp only [iZip] at e
  split at e
  · rename_i ts us cs1 h1
    cases e
    refine ⟨G, cs, SRr, _, _, h1, fun G1 H1 vs f R1 ok => ?_⟩
    cases ok with
    | cons a b =>
      cases b with
      | cons b c =>
        cases c
        cases a with
        | lst ha xa =>
          cases b with
          | lst hb xb =>
            refine ⟨_, _, _, _, rfl, .inl ⟨R1.le.sql (.inl ha), R1.le.sql (.inl hb), k G1 H1 _ f R1 ?_⟩⟩
            exact walks_pair xa xb (fun G2 H2 l1 l2 => (l1.trans l2).sql (.inl ha)) (fun G2 H2 l1 l2 => (l1.trans l2).sql (.inl hb)) (fun _ _ h => h) (fun _ _ _ _ h => h) fun _ _ h => h
  · rename_i ts us cs1 h1
    cases e
    refine ⟨G, cs, SRr, _, _, h1, fun G1 H1 vs f R1 ok => ?_⟩
    cases ok with
    | cons a b =>
      cases b with
      | cons b c =>
        cases c
        cases a with
        | tup ha xa =>
          cases b with
          | tup hb xb =>
            refine ⟨_, _, _, _, rfl, .inr ⟨R1.le.sqt (.inl (.inl ha)), R1.le.sqt (.inl (.inl hb)), k G1 H1 _ f R1 ?_⟩⟩
            exact walks_pair xa xb (fun G2 H2 l1 l2 => (l1.trans l2).sqt (.inl (.inl ha))) (fun G2 H2 l1 l2 => (l1.trans l2).sqt (.inl (.inl hb))) (fun _ _ h => h) (fun _ _ _ _ h => h) fun _ _ h => h
  · cases e
end
section
variable {X : Cx} {tg a b : Expr} {ms : MA} {p pos tpos : Pos} {elts : List Expr} {kk : Nat}
theorem args2_no {m1 m2 : ME} (cs cs' : Cs) (r : Rs) : mCons m1 (mCons m2 mNil) cs ≠ some ([r], cs') := by
  intro h
  simp only [mCons, mNil] at h
  cases h1 : m1 cs with
  | none => rw [h1] at h; cases h
  | some p =>
    obtain ⟨a, b⟩ := p
    rw [h1] at h
    simp only at h
    cases h2 : m2 b with
    | none => rw [h2] at h; cases h
    | some q =>
      obtain ⟨c, d⟩ := q
      rw [h2] at h
      cases h
theorem si_zip (hg : Gl X "zip") (hm : X.mg "zip" = none) (ha : SA X [a, b] ms) (hs : starEach [a, b] X.env = (false, eval a X.env) :: starEach [b] X.env := by rfl) (hpl : (backTo pos (starEach [b] X.env)).any (·.1) = false := by rfl) :
    SI X (.Tuple elts kk tpos) (.Call (.Name "zip" p) [a, b] [] pos) (iZip ms) := PI.imp (pi_zipA hg hm ha hs hpl) fun _ _ _ q => imp_zip q
end
end TL
namespace TL
open PySem PySem.Spec L2 PyProof PyProof.Rows

/-! ### sum and sorted of a tuple -/
section
variable {prog : Program} {w : World} {A : Around} {E : Value → Shared → Prop} {s : Shared}
theorem collect_tup {b : Addr} {us : List Value} {Q : List Value → Shared → Prop} (ht : s.heap.IsTuple b us.toArray) (hle : us.length ≤ sizeLine)
    (k : Q us { s with heap := (s.heap.push (seqObj "list" #[] 0)).update s.heap.objs.size (Obj.mapSeq (· ++ us.toArray)) }) : wpAny (model prog w) A (collect (.ref b)) Q E s := by
  obtain ⟨ob, hob, hcl, m, hda⟩ := id ht
  unfold collect
  apply wpAny_bind
  apply wpAny_runValue
  apply codeAny_builtin entry_proto_collect'
  show wpAny _ _ (do again (.builtin "list.__iadd__" ⟨[← newList [], .ref b], []⟩)) _ _ s
  refine wpAny_bind (wpAny_newList (wpAny_pure ⟨Code.quiet_builtin _ (by decide +kernel), codeAny_builtin entry_list_iadd' ?_⟩))
  show wpAny _ _ (Builtin.List.listExtendWith (.ref s.heap.objs.size) (.ref b) (.ref s.heap.objs.size)) _ _ { s with heap := s.heap.push (seqObj "list" #[] 0) }
  unfold Builtin.List.listExtendWith
  have hob' : (s.heap.push (seqObj "list" #[] 0)).get? b = some ob := Heap.get?_push_of_some _ hob
  apply wpAny_bind
  refine wpAny_typeOf (T := "tuple") ⟨ob, hob', hcl⟩ ?_
  have hty : (Value.type "tuple" == Value.type "tuple") = true := by rfl
  rw [if_pos (by rw [hty]; simp)]
  apply wpAny_bind
  refine listItems_at hob' hda ?_
  apply wpAny_bind
  refine listItems_at (xs := #[]) (n := 0) (Heap.get?_push_size _ rfl) rfl ?_
  rw [if_neg (by simp)]
  apply wpAny_bind
  refine listUpdate_at (xs := #[]) (n := 0) (Heap.get?_push_size _ rfl) rfl ?_ (Nat.zero_le _) (by show (#[] ++ us.toArray).size ≤ sizeLine + 1; rw [Array.size_append, List.size_toArray]; show 0 + us.length ≤ sizeLine + 1; omega)
  apply wpAny_pure
  show wpAny (model prog w) A (do
      let ob ← load s.heap.objs.size
      match ob.data with
      | .seq zs _ => pure zs.toList
      | _ => unsupported "internal:collect") Q E { s with heap := (s.heap.push (seqObj "list" #[] 0)).update s.heap.objs.size (Obj.mapSeq (· ++ us.toArray)) }
  apply wpAny_bind
  refine wpAny_load (get?_update_seq (Heap.get?_push_size _ rfl) _) ?_
  show wpAny _ _ (pure ((#[] : Array Value) ++ us.toArray).toList) Q E _
  rw [show ((#[] : Array Value) ++ us.toArray).toList = us by simp]
  exact wpAny_pure k
theorem sorted_tup_ints {b : Addr} {us : List Value} {ns : List Int} {Q : Value → Shared → Prop} (ht : s.heap.IsTuple b us.toArray) (hi : IntsAre us ns) (hlt : us.length < 64)
    (k : ∀ (out : Array Value) (ms : List Int), IntsAre out.toList ms → ms.Perm ns → ms.Pairwise (· ≤ ·) → Q (.ref (s.heap.objs.size + 1)) { s with heap := sortedAll s.heap us out }) :
    wpAny (model prog w) A (call (.builtin "sorted") [.ref b]) Q E s := by
  apply Calls.call_function_entry kind_sorted plain_sorted entry_sorted (args_sorted1 _)
  unfold Builtin.«sorted»
  refine wpAny_bind (m := checkCount "sorted" 1 1 _) (wpAny_pure ?_)
  apply wpAny_bind
  refine collect_tup ht (small64 hlt) ?_
  apply wpAny_bind
  refine wpAny_newList (hsz := small64 hlt) ?_
  have hs1 : ((s.heap.push (seqObj "list" #[] 0)).update s.heap.objs.size (Obj.mapSeq (· ++ us.toArray))).objs.size = s.heap.objs.size + 1 := by
    rw [Heap.size_update, size_push']
  have hs2 : (((s.heap.push (seqObj "list" #[] 0)).update s.heap.objs.size (Obj.mapSeq (· ++ us.toArray))).push (seqObj "list" us.toArray 0)).get? (s.heap.objs.size + 1) = some (seqObj "list" us.toArray 0) := by
    rw [← hs1]; exact Heap.get?_push_size _ rfl
  show wpAny _ _ _ _ _ { s with heap := ((s.heap.push (seqObj "list" #[] 0)).update s.heap.objs.size (Obj.mapSeq (· ++ us.toArray))).push (seqObj "list" us.toArray 0) }
  rw [hs1]
  apply wpAny_bind
  refine wpAny_holding (wpAny_call_entry slot_list_sort ⟨_, hs2, rfl⟩ entry_list_sort (list_sort_tree hs2 hi hlt fun out ms x y z => ⟨_, rfl, ?_⟩) (args_list_sort _))
  exact wpAny_pure ⟨_, rfl, k out ms x y z⟩
end
section
variable {X : Cx}
def rSumTu (K : PySem.W.Frag) : List V → Hp → VK → Prop := fun vs H Q => ∃ (a : Addr) (ns : List Int), vs = [V.ref a] ∧ SqT K H a (ns.map V.int) ∧ Q (.int ns.sum) H
theorem cr_sumTu (hc : X.calm = true) : CallR X (.builtin "sum") (rSumTu X.K) := by
  intro pins s σ H vs us Q I r h
  obtain ⟨a, ns, rfl, hs, q⟩ := h
  obtain ⟨its, rv, hl, _⟩ := I.tuple hs
  rw [Vals.ref1 r]
  obtain ⟨xs, e⟩ := rv.ints.allInts.items
  have hn : numsOf (intItems xs).toList = ns := by rw [← e]; exact rv.ints.numsOf
  rw [nums_intItems] at hn
  have hl' : s.heap.IsTuple a (intItems xs) := by rw [← e]; exact hl
  refine PySem.W.ktm_sumG (I.ok.hd hc) hl' fun h' tk t' hk => ?_
  rw [preSum_eq, List.take_of_length_le (by simp), hn]
  exact ⟨.int _, H, I.kept hk, ⟨_, rfl⟩, q⟩
def rSortedTu (K : PySem.W.Frag) : List V → Hp → VK → Prop := fun vs H Q => ∃ (a : Addr) (ns : List Int), vs = [V.ref a] ∧ SqT K H a (ns.map V.int) ∧ ns.length < 64 ∧
  ∀ (ns' : List Int) (p : Addr), ns'.Perm ns → ns'.Pairwise (· ≤ ·) → H p = none → Q (.ref p) (upd H p (.lst (ns'.map V.int)))
theorem cr_sortedTu : CallR X (.builtin "sorted") (rSortedTu X.K) := by
  intro pins s σ H vs us Q I r h
  obtain ⟨a, ns, rfl, hs, lt, q⟩ := h
  obtain ⟨its, rv, hl, _⟩ := I.tuple hs
  rw [Vals.ref1 r]
  have hi := rv.ints
  refine sorted_tup_ints hl hi (by rw [hi.length]; exact lt) fun out ms x y z => ?_
  obtain ⟨ep, he⟩ := PyProof.Rows.sortedAll_at s.heap its out
  have hle : (ms.map V.int).length ≤ sizeLine := by rw [List.length_map, y.length_eq]; exact small64 lt
  exact ⟨.ref _, upd H (s.heap.objs.size + 1) (.lst (ms.map V.int)), I.laid (t' := s.toks) (fun _ _ => PyProof.Rows.sortedAll_old) (Nat.le_succ _) ⟨hle, out.toList, ep, vals_of_ints x, he⟩, rfl, q ms _ y z (I.hok.fresh (Nat.le_succ _))⟩
def sumA : List T → Option Out
  | [.list ts] => sumT [.list ts]
  | [.tuple ts] => match intsOf ts with
    | some ns => some (.fz (.int ns.sum))
    | none => none
  | _ => none
theorem c_sumA (hc : X.calm = true) : CallR X (.builtin "sum") (rT X.K sumA) := by
  intro pins s σ H vs us Q I r h
  obtain ⟨G, ts, o, l, ps, e, k⟩ := h
  unfold sumA at e
  split at e
  · exact c_sum hc pins s σ H vs us Q I r ⟨G, _, o, l, ps, e, k⟩
  · rename_i ts
    split at e
    · rename_i ns hn
      cases e
      obtain ⟨v, rfl, p⟩ := ps.one
      obtain ⟨a, vs, rfl, hr, rs⟩ := p.tup l
      obtain ⟨ev, _⟩ := rs.ints hn
      subst ev
      exact cr_sumTu hc pins s σ H _ us Q I r ⟨a, ns, rfl, .inl (.inl (l.tp _ _ hr)), k G H _ (.refl l) (.int _)⟩
    · cases e
  · cases e
def sortedA : List T → Option Out
  | [.list ts] => sortedI [.list ts]
  | [.tuple ts] => if ts.length < 64 then match intsOf ts with
    | some ns => some (.nw (.list ((sortI ns).map PyData.int)))
    | none => none
    else none
  | _ => none
theorem intsOf_length : ∀ {ts : List T} {ns : List Int}, intsOf ts = some ns → ts.length = ns.length
  | [], ns, h => by cases h; rfl
  | t :: r, ns, h => by
    cases t with
    | int i =>
      simp only [intsOf] at h
      cases hr : intsOf r with
      | none => rw [hr] at h; cases h
      | some is =>
        rw [hr] at h
        cases h
        rw [List.length_cons, List.length_cons, intsOf_length hr]
    | _ => cases h
theorem c_sortedA : CallR X (.builtin "sorted") (rT X.K sortedA) := by
  intro pins s σ H vs us Q I r h
  obtain ⟨G, ts, o, l, ps, e, k⟩ := h
  unfold sortedA at e
  split at e
  · exact c_sortedI pins s σ H vs us Q I r ⟨G, _, o, l, ps, e, k⟩
  · rename_i ts
    split at e
    · rename_i hlt
      split at e
      · rename_i ns hn
        cases e
        obtain ⟨v, rfl, p⟩ := ps.one
        obtain ⟨a, vs, rfl, hr, rs⟩ := p.tup l
        obtain ⟨ev, _⟩ := rs.ints hn
        subst ev
        refine cr_sortedTu pins s σ H _ us Q I r ⟨a, ns, rfl, .inl (.inl (l.tp _ _ hr)), by rw [← intsOf_length hn]; exact hlt, fun ns' q pm so nq => ?_⟩
        have : ns' = sortI ns := sorted_uniq so (sortI_sorted ns) (pm.trans (sortI_perm ns).symm)
        subst this
        exact k _ _ _ (.own l nq) ⟨q, rfl, nq, l.dom _ nq, .lst upd_same rels_ints⟩
      · cases e
    · cases e
  · cases e
end

/-! ### a written tuple is taken apart by names that are no plain locals -/
section
variable {X : Cx} {K : Fg} {D : Ends} {σ : L2.St} {H : Hp} {ma mb mc : ME} {i j l : Nat}
theorem imp_parT (h : tSt K (sPar i j ma mb) D σ H) : tAsg (tTup (tCons (tS K ma) (tCons (tS K mb) tNil))) (gTup K 2 (gCons (gName i) (gCons (gName j) gNil))) D σ H := by
  obtain ⟨G, cs, R, fl, cs', e, k⟩ := h
  simp only [sPar] at e
  split at e
  · rename_i ra cs1 h1
    split at e
    · rename_i rb cs2 h2
      split at e
      · rename_i cs3 h3
        split at e
        · rename_i cs4 h4
          cases e
          refine imp_keep ⟨G, cs, R, ra, cs1, h1, fun G1 H1 v f1 R1 ok1 y1 => imp_keep ⟨G1, cs1, R1, rb, cs2, h2, fun G2 H2 w f2 R2 ok2 y2 => ?_⟩⟩
          refine ⟨(by decide : 2 ≤ sizeLine), fun q nq => ?_⟩
          have x := Ext.own (o := .tup [v, w]) R2.le nq
          have fx := FrE.ext (σ := σ) (cs := cs2) x
          have Rx := R2.ext x
          have f12 := (f1.trans f2).trans fx
          have ok1' := (ok1.mono f2).mono fx
          obtain ⟨f3, R3⟩ := put1_ok f12.toFr Rx ok1' y1 h3
          have ok2' := RsOk.put1 Rx (dis_of ok1 y2) ok1' (ok2.mono fx) (cellR_of h4) h3
          obtain ⟨f4, R4⟩ := put1_ok f3 R3 ok2' (y2.up f1) h4
          exact ⟨q, [v, w], rfl, .inl (.inl upd_same), rfl, v, [w], rfl, w, [], rfl, rfl, k _ _ _ f4 R4⟩
        · cases e
      · cases e
    · cases e
  · cases e
variable {x y z : Str} {a b c : Expr} {px py pz pt pos : Pos} {kt k2 : Nat} {pt2 : Pos}
theorem ss_parT (hc : X.calm = true) (hN : X.N.Nodup) (hi : X.N[i]? = some x) (hj : X.N[j]? = some y) (hx : Loc X.env.scope x) (hy : Loc X.env.scope y) (ha : SE X a ma) (hb : SE X b mb)
    (f1 : X.fn x = true ∨ X.env.scope.names.lookup x = some .local := by first | exact .inl rfl | exact .inr rfl) (f2 : X.fn y = true ∨ X.env.scope.names.lookup y = some .local := by first | exact .inl rfl | exact .inr rfl)
    (s1 : starEach [a, b] X.env = (false, eval a X.env) :: starEach [b] X.env := by rfl) (s2 : starEach [b] X.env = (false, eval b X.env) :: starEach [] X.env := by rfl)
    (hs : swapsWithSole [.Tuple [.Name x px, .Name y py] kt pt] (.Tuple [a, b] k2 pt2) pos.line X.env = pure false := by rfl) (hw : swappedStores [.Tuple [.Name x px, .Name y py] kt pt] (.Tuple [a, b] k2 pt2) X.env = pure none := by rfl)
    (h1 : (assignEach [.Tuple [.Name x px, .Name y py] kt pt] X.env).map (·.2) = [assign (.Tuple [.Name x px, .Name y py] kt pt) X.env] := by rfl) :
    SS X (.Assign [.Tuple [.Name x px, .Name y py] kt pt] (.Tuple [a, b] k2 pt2) pos) (sPar i j ma mb) :=
  PS.imp (ps_asg (pe_tup (pa_cons ha (pa_cons hb pa_nil s2) s1)) (pg_tup (n := 2) hc (pgs_cons (pg_name hN hi hx f1) (pgs_cons (pg_name hN hj hy f2) pgs_nil))) hs hw h1) fun _ _ _ h => imp_parT h
end

/-! ### a function that is not called any deeper -/
theorem fn_never {P : Program} {w : World} {K : PySem.W.Frag} {mg : Str → Option Value} {base : Heap} {CX : CXT} {k n : Nat} {f : Addr} {fd : FuncData} {ps : List Str} : FnOk P w K mg base CX k f fd ps (spS K n fun _ => none) := by
  have no : ∀ vs H Q E, spS K n (fun _ => none) vs H Q E → False := fun vs H Q E ⟨_, _, _, _, _, _, _, e, _⟩ => by cases e
  exact ⟨fun vs H Q E h => (no _ _ _ _ h).elim, fun A outer s H args us vs Q E hr he hb hv h => (no _ _ _ _ h).elim⟩
end TL
namespace TL
open PySem PySem.Spec L2

/-! ### sorted of a list of data of one kind -/
def nonEmptyTup : T → Bool
  | .tuple (_ :: _) => true
  | _ => false
def noTup : T → Bool
  | .none => false
  | .tuple _ => false
  | _ => true
def sortT (ts : List T) : List T := ts.mergeSort (W.dataLe false id)
def sortOk (ts : List T) : Bool := okA 19 ts && (ts.all fun a => ts.all fun b => W.alike a b) && (ts.all nonEmptyTup || ts.all noTup)
def sortedD : List T → Option Out
  | [.list ts] => if sortOk ts ∧ ts.length ≤ sizeLine then some (.nw (.list (sortT ts))) else none
  | _ => none
section
variable {X : Cx} {K : Fg} {G H : Hp} {pins : List (Addr × Obj)} {σ : L2.St} {s : Shared}
theorem zip_each : ∀ {xs : List V} {its : List Value} {ts : List T}, Vals xs its → xs.length = ts.length → W.EachIs (fun (u : Value) (b : V × T) => RelV b.1 u) its (xs.zip ts)
  | _, _, [], .nil, _ => .nil
  | _, _, _ :: _, .cons _ _, _ => by
    rename_i h1 h2 h3
    exact .cons h1 (zip_each h2 (by simpa using h3))
  | _, _, t :: ts, .nil, h => by simp at h
  | _, _, [], .cons _ _, h => by simp at h
theorem zip_reads (I : Inv X pins σ H s) (l : Le G H) : ∀ {xs : List V} {its : List Value} {ts : List T}, Vals xs its → Rels X.K G ts xs → okA 19 ts = true → W.EachIs (fun (u : Value) (b : V × T) => ∃ as, Reads s.heap u b.2 as) its (xs.zip ts)
  | _, _, [], v, .nil, _ => by cases v; exact .nil
  | _, _, t :: ts, v, .cons a r, h => by
    rw [okA, Bool.and_eq_true] at h
    cases v with
    | cons v1 v2 => exact .cons (Dp.reads I _ _ _ ((a.mono l).dp 19 h.1) v1) (zip_reads I l v2 r h.2)
theorem vals_each : ∀ {out : List Value} {bs : List (V × T)}, W.EachIs (fun (u : Value) (b : V × T) => RelV b.1 u) out bs → Vals (bs.map (·.1)) out
  | _, _, .nil => .nil
  | _, _, .cons a r => .cons a (vals_each r)
theorem zip_rel : ∀ {xs : List V} {ts : List T}, Rels K G ts xs → ∀ p, p ∈ xs.zip ts → Rel K G p.2 p.1
  | _, _, .nil, p, h => by cases h
  | _, _, .cons a r, p, h => by
    rw [List.zip_cons_cons] at h
    rcases List.mem_cons.mp h with rfl | h
    · exact a
    · exact zip_rel r p h
theorem rels_of : ∀ {bs : List (V × T)}, (∀ p, p ∈ bs → Rel K G p.2 p.1) → Rels K G (bs.map (·.2)) (bs.map (·.1))
  | [], _ => .nil
  | p :: bs, h => .cons (h p List.mem_cons_self) (rels_of fun q m => h q (List.mem_cons_of_mem _ m))
theorem okA_mem : ∀ {ts : List T} {n : Nat}, okA n ts = true → ∀ t, t ∈ ts → okD n t = true
  | [], _, _, t, h => by cases h
  | a :: r, n, h, t, m => by
    rw [okA, Bool.and_eq_true] at h
    rcases List.mem_cons.mp m with rfl | m
    · exact h.1
    · exact okA_mem h.2 t m
theorem c_sortedD (hu : X.A.units + 64 < cLine) : CallR X (.builtin "sorted") (rT X.K sortedD) := by
  intro pins s σ H vs us Q I r h
  obtain ⟨G, ts0, o, l, ps, e, k⟩ := h
  unfold sortedD at e
  split at e
  · rename_i ts
    split at e
    · rename_i hc
      cases e
      obtain ⟨hok, hlen⟩ := hc
      unfold sortOk at hok
      rw [Bool.and_eq_true, Bool.and_eq_true] at hok
      obtain ⟨⟨h1, h2⟩, h3⟩ := hok
      obtain ⟨v, rfl, p⟩ := ps.one
      obtain ⟨a, xs, rfl, hr, rs⟩ := p.lst l
      obtain ⟨its, rv, hl, _⟩ := I.list (.inl hr)
      rw [Vals.ref1 r]
      have ln : xs.length = ts.length := rs.length
      have em : (xs.zip ts).map Prod.snd = ts := List.map_snd_zip (by omega)
      have lz : (xs.zip ts).length = ts.length := by rw [List.length_zip]; omega
      refine W.sorted_data (enc := Prod.snd) hl.isList (zip_each rv ln) (zip_reads I l rv rs h1) ?_ ?_ (by omega) ?_ fun out ho eo => ?_
      · rw [em]
        intro d hd d' hd'
        exact List.all_eq_true.mp (List.all_eq_true.mp h2 d hd) d' hd'
      · rw [em]
        rw [Bool.or_eq_true] at h3
        rcases h3 with h3 | h3
        · refine .inl fun d hd => ?_
          have := List.all_eq_true.mp h3 d hd
          unfold nonEmptyTup at this
          split at this
          · exact ⟨_, _, rfl⟩
          · cases this
        · refine .inr fun d hd => ?_
          have := List.all_eq_true.mp h3 d hd
          constructor
          · rintro rfl; cases this
          · rintro zs rfl; cases this
      · intro b hb
        have hm : b.2 ∈ ts := by
          have := List.mem_map_of_mem (f := Prod.snd) hb
          rwa [em] at this
        have := (okD_lay b.2 19 (okA_mem h1 _ hm)).2
        omega
      · obtain ⟨ep, he⟩ := PyProof.Rows.sortedAll_at s.heap its out.toArray
        have hv := vals_each eo
        have e2 : ((xs.zip ts).mergeSort (W.dataLe false Prod.snd)).map (·.2) = sortT ts := by
          refine (List.map_mergeSort (r := W.dataLe false Prod.snd) (s := W.dataLe false id) (f := Prod.snd) fun _ _ _ _ => rfl).trans ?_
          rw [em]
          rfl
        have hrel := rels_of (bs := (xs.zip ts).mergeSort (W.dataLe false Prod.snd)) fun p hp => zip_rel rs p (List.mem_mergeSort.mp hp)
        rw [e2] at hrel
        have hle : (((xs.zip ts).mergeSort (W.dataLe false Prod.snd)).map (·.1)).length ≤ sizeLine := by rw [List.length_map, List.length_mergeSort, lz]; exact hlen
        have hn := I.hok.fresh (Nat.le_succ s.heap.objs.size)
        exact ⟨.ref _, upd H (s.heap.objs.size + 1) (.lst _), I.laid (t' := s.toks) (fun _ _ => PyProof.Rows.sortedAll_old) (Nat.le_succ _) ⟨hle, out, ep, hv, he⟩, rfl, k _ _ _ (.own l hn) ⟨_, rfl, hn, l.dom _ hn, .lst upd_same hrel⟩⟩
    · cases e
  · cases e
end

/-- both: whole numbers of a list or tuple, data of one kind of a list -/
def sortedG (ts : List T) : Option Out := match sortedA ts with
  | some o => some o
  | none => sortedD ts
theorem c_sortedG {X : Cx} (hu : X.A.units + 64 < cLine) : CallR X (.builtin "sorted") (rT X.K sortedG) := by
  intro pins s σ H vs us Q I r h
  obtain ⟨G, ts, o, l, ps, e, k⟩ := h
  unfold sortedG at e
  split at e
  · rename_i o' e'
    cases e
    exact c_sortedA pins s σ H vs us Q I r ⟨G, ts, _, l, ps, e', k⟩
  · exact c_sortedD hu pins s σ H vs us Q I r ⟨G, ts, o, l, ps, e, k⟩
end TL
set_option maxHeartbeats 4000000
namespace TL
open PySem PySem.Spec L2 PyProof.Rows

/-! ### a tuple times a number -/
theorem tup_same (b : Addr) (us : Array Value) (m : Nat) (db : Option Addr) (sb : Array (Option Value)) (z : Int) (tz : Tok) (k0 : (decide (z < -(2 ^ 63)) || decide (z ≥ 2 ^ 63)) = false) (k1 : (us.isEmpty || z == 1) = true) :
    Meets (Builtin.«tuple.__mul__» ⟨[.ref b, .int z tz], []⟩) (fun _ R s => s.heap.get? b = some { cls := .type "tuple", dict := db, data := .seq us m, slots := sb } ∧ R (.ok (.ret (Value.ref b))) s) :=
  .of_wp fun prog w A R s h => by
    obtain ⟨hp, g, d, tk, os⟩ := s
    obtain ⟨hb, h⟩ := h
    have f1 := AutoSeq1.idx_int
    wp_walk using wpAny_loadPart' hb
    repeat (first
      | (refine wpAny_ite_false (decide_eq_false (by rw [k0]; exact Bool.false_ne_true)) ?_; wp_walk using wpAny_loadPart' hb)
      | (refine wpAny_ite_true (decide_eq_true k1) ?_; wp_walk using wpAny_loadPart' hb))
    exact ⟨_, rfl, h⟩
section
variable {X : Cx}
def rSameT (K : PySem.W.Frag) : R2 := fun x y H Q => ∃ (b : Addr) (z : Int) (xs : List V), x = .ref b ∧ y = .int z ∧ SqT K H b xs ∧ (xs = [] ∨ z = 1) ∧ 0 ≤ z ∧ z ≤ 1000 ∧ Q (.ref b) H
theorem op_sameT : OpR X (binaryOp .Mult) (rSameT X.K) := by
  intro pins s σ H x y v u Q I rx ry h
  obtain ⟨b, z, xs, rfl, rfl, hb, hc, z0, z1, q⟩ := h
  cases rx
  obtain ⟨tz, rfl⟩ := ry
  obtain ⟨its, rv, ⟨⟨cls, db, data, sb⟩, ho, hcl, m, hda⟩, hs⟩ := I.tuple hb
  simp only at hcl hda
  subst hcl hda
  have k0 : (decide (z < -(2 ^ 63)) || decide (z ≥ 2 ^ 63)) = false := by
    rw [decide_eq_false (by omega), decide_eq_false (by omega)] <;> rfl
  have k1 : (its.toArray.isEmpty || z == 1) = true := by
    rcases hc with rfl | rfl
    · cases rv; rfl
    · rw [Bool.or_eq_true]; exact .inr rfl
  refine wpAny_binaryOp_repeat_ref (T := "tuple") (U := "int") (by decide) ⟨_, ho, rfl⟩ (fun s' => typeIs_int s' z tz) noFill_tuple_mul F.fills_int_mul F.slot_int_rmul repeat_tuple F.slot_int_index.lookup ?_
  refine call_meets F.slot_int_rmul (typeIs_int s z tz) F.entry_int_rmul (F.args_int_rmul_2 _ _) (int_rmul_tuple z tz b its.toArray m db sb) ⟨ho, rfl, ⟨_, ho, rfl⟩, ?_⟩
  exact call_meets F.slot_tuple_mul ⟨_, ho, rfl⟩ F.entry_tuple_mul (F.args_tuple_mul_2 _ _) (tup_same b its.toArray m db sb z tz k0 k1) ⟨ho, ⟨.ref b, H, I, rfl, q⟩⟩
def mulTu : T → T → Option Out
  | .tuple ts, .int z => if (ts.isEmpty || z == 1) && decide (0 ≤ z) && decide (z ≤ 1000) then some (.fz (.tuple ts)) else if !ts.isEmpty && decide (2 ≤ z) && decide (z ≤ 1000) && decide (ts.length ≤ 1000) then some (.fz (.tuple (List.replicate z.toNat ts).flatten)) else none
  | _, _ => none
theorem o_mulTu : OpR X (binaryOp .Mult) (r2T X.K mulTu) := by
  intro pins s σ H x y v u Q I rx ry ⟨G, a, b, o, l, pa, pb, e, k⟩
  cases a with
  | tuple ts =>
    cases b with
    | int z =>
      simp only [mulTu] at e
      obtain ⟨p, vs, rfl, hr, rs⟩ := pa.tup l
      have hq : SqT X.K H p vs := .inl (.inl (l.tp _ _ hr))
      split at e
      · rename_i hc
        cases e
        simp only [Bool.and_eq_true, Bool.or_eq_true, decide_eq_true_eq, List.isEmpty_iff, beq_iff_eq] at hc
        refine op_sameT pins s σ H _ y v u Q I rx ry ⟨p, z, vs, rfl, pb.int, hq, ?_, hc.1.2, hc.2, k G H _ (.refl l) (.tup hr rs)⟩
        rcases hc.1.1 with h | h
        · subst h; cases rs; exact .inl rfl
        · exact .inr h
      · split at e
        · rename_i hc
          cases e
          simp only [Bool.and_eq_true, Bool.not_eq_true', decide_eq_true_eq, List.isEmpty_eq_false_iff] at hc
          refine op_repT pins s σ H _ y v u Q I rx ry ⟨p, z, vs, rfl, pb.int, hq, ?_, hc.1.1.2, hc.1.2, by rw [rs.length]; exact hc.2, fun q nq => ?_⟩
          · intro h
            subst h
            cases rs
            exact hc.1.1.1 rfl
          · have x2 := Ext.both (o := .tup (List.replicate z.toNat vs).flatten) l nq trivial
            exact k _ _ _ x2 (.tup upd_same ((rep_rels rs _).mono x2.g))
        · cases e
    | _ => cases e
  | _ => cases e
/-- whole numbers, a tuple times a number -/
def mulA : T → T → Option Out := fun a b => match mulI a b with
  | some o => some o
  | none => mulTu a b
theorem o_mulA : OpR X (binaryOp .Mult) (r2T X.K mulA) := OpR.alt o_mulI o_mulTu fun a b o e => by
  unfold mulA at e
  cases h : mulI a b with
  | some o' => rw [h] at e; exact .inl e
  | none => rw [h] at e; exact .inr e
end
end TL
namespace TL
open PySem PySem.Spec L2

/-! ### data of one kind: least, greatest, order -/
def alikeB (ts : List T) : Bool := (ts.all fun a => ts.all fun b => W.alike a b) && ts.all fun a => !isNo a
theorem alikeB_ok {ts : List T} (h : alikeB ts = true) : W.AlikeAll ts := by
  unfold alikeB at h
  rw [Bool.and_eq_true] at h
  refine ⟨fun x hx y hy => List.all_eq_true.mp (List.all_eq_true.mp h.1 x hx) y hy, fun x hx e => ?_⟩
  have := List.all_eq_true.mp h.2 x hx
  subst e
  cases this
theorem isNo_ne {t : T} (h : (!isNo t) = true) : t ≠ .none := by rintro rfl; cases h
def minGT : List T → Option Out
  | [.list (x :: xs)] => if okA 19 (x :: xs) && alikeB (x :: xs) then some (.fz (W.minD x xs)) else none
  | [.tuple (x :: xs)] => if okA 19 (x :: xs) && alikeB (x :: xs) then some (.fz (W.minD x xs)) else none
  | _ => none
def maxGT : List T → Option Out
  | [.list (x :: xs)] => if okA 19 (x :: xs) && alikeB (x :: xs) then some (.fz (W.maxD x xs)) else none
  | [.tuple (x :: xs)] => if okA 19 (x :: xs) && alikeB (x :: xs) then some (.fz (W.maxD x xs)) else none
  | _ => none
def cmpG (g : T → T → Bool) : T → T → Option Out := fun a b => if okD 20 a && okD 20 b && W.alike a b && !isNo a then some (.fz (.bool (g a b))) else none
def ltG : T → T → Option Out := fun a b => match ltI a b with
  | some o => some o
  | none => cmpG W.dataLt a b
def gtG : T → T → Option Out := fun a b => match gtI a b with
  | some o => some o
  | none => cmpG (fun a b => W.dataLt b a) a b
def leG : T → T → Option Out := fun a b => match leI a b with
  | some o => some o
  | none => cmpG (fun a b => !W.dataLt b a) a b
def geG : T → T → Option Out := fun a b => match geI a b with
  | some o => some o
  | none => cmpG (fun a b => !W.dataLt a b) a b
section
variable {X : Cx} {K : Fg} {G H H1 : Hp} {pins : List (Addr × Obj)} {σ : L2.St} {s : Shared}
theorem reads_rel (I : Inv X pins σ H s) (l : Le G H) {t : T} {v : V} {u : Value} (r : Rel X.K G t v) (h : okD 20 t = true) (ru : RelV v u) : ∃ as, Reads s.heap u t as := Dp.reads I t v u ((r.mono l).dp 20 h) ru
theorem reads_rels (I : Inv X pins σ H s) (l : Le G H) {ts : List T} {vs : List V} {us : List Value} (r : Rels X.K G ts vs) (h : okA 19 ts = true) (ru : Vals vs us) : ∃ as, ReadsAll s.heap us ts as := Dp.readsAll I ts vs us ((r.mono l).dp 19 h) ru
/-- the item that is found: its tree is the one that is told -/
theorem item_rel {ts : List T} {vs : List V} {us : List Value} {i : Nat} {u : Value} {t : T} {bs : List Addr} {h' : Heap} (I : Inv X pins σ H s) (l : Le G H) (rs : Rels X.K G ts vs) (hk : okA 19 ts = true) (rv : Vals vs us) (hu : us.toArray[i]? = some u)
    (rd : Reads h' u t bs) (hc : t.canLay0 = true) (kp : ∀ b o, s.heap.get? b = some o → h'.get? b = some o) : ∃ v, RelV v u ∧ Rel X.K G t v := by
  have hu' : us[i]? = some u := by simpa using hu
  have hl := rv.length
  obtain ⟨hi, _⟩ := List.getElem?_eq_some_iff.mp hu'
  obtain ⟨w, ew, rw'⟩ := rv.get (i := i) (x := vs[i]) (List.getElem?_eq_getElem (by omega))
  rw [hu'] at ew; cases ew
  obtain ⟨t', et, rt⟩ := rs.getV (i := i) (v := vs[i]) (List.getElem?_eq_getElem (by omega))
  have ok' := okA_mem hk t' (List.mem_of_getElem? et)
  obtain ⟨as', r'⟩ := Dp.reads I t' vs[i] u ((rt.mono l).dp 19 ok') rw'
  have e1 := SeqAt.readOf_eq (okD_lay t' 19 ok').1 (W.reads_keeps kp r')
  have e2 := SeqAt.readOf_eq hc rd
  rw [e1] at e2
  subst e2
  exact ⟨_, rw', rt⟩
theorem fold_mem (c : T → T → Bool) : ∀ (xs : List T) (x : T), xs.foldl (fun a y => if c y a then y else a) x ∈ x :: xs
  | [], x => List.mem_cons_self
  | y :: ys, x => by
    rw [List.foldl_cons]
    have ih := fold_mem c ys (if c y x then y else x)
    rcases List.mem_cons.mp ih with h | h
    · rw [h]
      split
      · exact List.mem_cons_of_mem _ List.mem_cons_self
      · exact List.mem_cons_self
    · exact List.mem_cons_of_mem _ (List.mem_cons_of_mem _ h)
theorem minD_mem (x : T) (xs : List T) : W.minD x xs ∈ x :: xs := fold_mem W.dataLt xs x
theorem maxD_mem (x : T) (xs : List T) : W.maxD x xs ∈ x :: xs := fold_mem (fun y a => W.dataLt a y) xs x
theorem depth_of {ts : List T} (h : okA 19 ts = true) : PyData.depthAll ts ≤ 19 := (okA_lay ts 19 h).2
theorem c_minG (hc : X.calm = true) (hu : X.A.units + 64 < cLine) : CallR X (.builtin "min") (rT X.K minGT) := by
  intro pins s σ H vs us Q I r h
  obtain ⟨G, ts0, o, l, ps, e, k⟩ := h
  unfold minGT at e
  split at e
  · rename_i x xs
    split at e
    · rename_i hk
      cases e
      obtain ⟨h1, h2⟩ := Bool.and_eq_true _ _ |>.mp hk
      obtain ⟨v, rfl, p⟩ := ps.one
      obtain ⟨a, ys, rfl, hr, rs⟩ := p.lst l
      obtain ⟨its, rv, hl, _⟩ := I.list (.inl hr)
      rw [Vals.ref1 r]
      obtain ⟨as, ra⟩ := reads_rels I l rs h1 rv
      refine W.min_list_data (I.ok.hd hc) hl.isList (by simpa using ra) (alikeB_ok h2) (by have := depth_of h1; omega) fun i v h' tk bs hv rd kp => ?_
      have hm := minD_mem x xs
      obtain ⟨w, rw', rt⟩ := item_rel I l rs h1 rv hv rd (okD_lay _ 19 (okA_mem h1 _ hm)).1 kp
      exact ⟨w, H, I.kept kp, rw', k G H w (.refl l) rt⟩
    · cases e
  · rename_i x xs
    split at e
    · rename_i hk
      cases e
      obtain ⟨h1, h2⟩ := Bool.and_eq_true _ _ |>.mp hk
      obtain ⟨v, rfl, p⟩ := ps.one
      obtain ⟨a, ys, rfl, hr, rs⟩ := p.tup l
      obtain ⟨its, rv, hl, _⟩ := I.tuple (.inl (.inl (l.tp _ _ hr)))
      rw [Vals.ref1 r]
      obtain ⟨as, ra⟩ := reads_rels I l rs h1 rv
      refine W.min_tuple_data (I.ok.hd hc) (show s.heap.IsTuple a its.toArray from hl) (by simpa using ra) (alikeB_ok h2) (by have := depth_of h1; omega) fun i v h' tk bs hv rd kp => ?_
      have hm := minD_mem x xs
      obtain ⟨w, rw', rt⟩ := item_rel I l rs h1 rv hv rd (okD_lay _ 19 (okA_mem h1 _ hm)).1 kp
      exact ⟨w, H, I.kept kp, rw', k G H w (.refl l) rt⟩
    · cases e
  · cases e
theorem c_maxG (hc : X.calm = true) (hu : X.A.units + 64 < cLine) : CallR X (.builtin "max") (rT X.K maxGT) := by
  intro pins s σ H vs us Q I r h
  obtain ⟨G, ts0, o, l, ps, e, k⟩ := h
  unfold maxGT at e
  split at e
  · rename_i x xs
    split at e
    · rename_i hk
      cases e
      obtain ⟨h1, h2⟩ := Bool.and_eq_true _ _ |>.mp hk
      obtain ⟨v, rfl, p⟩ := ps.one
      obtain ⟨a, ys, rfl, hr, rs⟩ := p.lst l
      obtain ⟨its, rv, hl, _⟩ := I.list (.inl hr)
      rw [Vals.ref1 r]
      obtain ⟨as, ra⟩ := reads_rels I l rs h1 rv
      refine W.max_list_data (I.ok.hd hc) hl.isList (by simpa using ra) (alikeB_ok h2) (by have := depth_of h1; omega) fun i v h' tk bs hv rd kp => ?_
      have hm := maxD_mem x xs
      obtain ⟨w, rw', rt⟩ := item_rel I l rs h1 rv hv rd (okD_lay _ 19 (okA_mem h1 _ hm)).1 kp
      exact ⟨w, H, I.kept kp, rw', k G H w (.refl l) rt⟩
    · cases e
  · rename_i x xs
    split at e
    · rename_i hk
      cases e
      obtain ⟨h1, h2⟩ := Bool.and_eq_true _ _ |>.mp hk
      obtain ⟨v, rfl, p⟩ := ps.one
      obtain ⟨a, ys, rfl, hr, rs⟩ := p.tup l
      obtain ⟨its, rv, hl, _⟩ := I.tuple (.inl (.inl (l.tp _ _ hr)))
      rw [Vals.ref1 r]
      obtain ⟨as, ra⟩ := reads_rels I l rs h1 rv
      refine W.max_tuple_data (I.ok.hd hc) (show s.heap.IsTuple a its.toArray from hl) (by simpa using ra) (alikeB_ok h2) (by have := depth_of h1; omega) fun i v h' tk bs hv rd kp => ?_
      have hm := maxD_mem x xs
      obtain ⟨w, rw', rt⟩ := item_rel I l rs h1 rv hv rd (okD_lay _ 19 (okA_mem h1 _ hm)).1 kp
      exact ⟨w, H, I.kept kp, rw', k G H w (.refl l) rt⟩
    · cases e
  · cases e
/-- both: whole numbers, data of one kind -/
def minA (ts : List T) : Option Out := match minT ts with
  | some o => some o
  | none => minGT ts
def maxA (ts : List T) : Option Out := match maxT ts with
  | some o => some o
  | none => maxGT ts
theorem c_minA (hc : X.calm = true) (hu : X.A.units + 64 < cLine) : CallR X (.builtin "min") (rT X.K minA) := by
  intro pins s σ H vs us Q I r h
  obtain ⟨G, ts, o, l, ps, e, k⟩ := h
  unfold minA at e
  split at e
  · rename_i o' e'
    cases e
    exact c_min hc pins s σ H vs us Q I r ⟨G, ts, _, l, ps, e', k⟩
  · exact c_minG hc hu pins s σ H vs us Q I r ⟨G, ts, o, l, ps, e, k⟩
theorem c_maxA (hc : X.calm = true) (hu : X.A.units + 64 < cLine) : CallR X (.builtin "max") (rT X.K maxA) := by
  intro pins s σ H vs us Q I r h
  obtain ⟨G, ts, o, l, ps, e, k⟩ := h
  unfold maxA at e
  split at e
  · rename_i o' e'
    cases e
    exact c_max hc pins s σ H vs us Q I r ⟨G, ts, _, l, ps, e', k⟩
  · exact c_maxG hc hu pins s σ H vs us Q I r ⟨G, ts, o, l, ps, e, k⟩
theorem op_cmpG {f : Value → Value → Sem Value} {g : T → T → Bool} (hu : X.A.units + 64 < cLine)
    (hf : ∀ {s : Shared} {a b : Value} {da db : PyData} {as bs : List Addr} {Q : Value → Shared → Prop}, Reads s.heap a da as → Reads s.heap b db bs → W.alike da db = true → da ≠ .none → X.A.units + min da.depth db.depth < cLine → Q (.bool (g da db)) s → wpAny (model X.prog X.w) X.A (f a b) Q X.xe s) : OpR X f (r2T X.K (cmpG g)) := by
  intro pins s σ H x y v u Q I rx ry ⟨G, a, b, o, l, pa, pb, e, k⟩
  unfold cmpG at e
  split at e
  · rename_i hk
    cases e
    simp only [Bool.and_eq_true] at hk
    obtain ⟨⟨⟨h1, h2⟩, h3⟩, h4⟩ := hk
    obtain ⟨as, r1⟩ := Dp.reads I a x v (pa.dp l h1) rx
    obtain ⟨bs, r2⟩ := Dp.reads I b y u (pb.dp l h2) ry
    refine hf r1 r2 h3 (isNo_ne h4) ?_ ⟨.bl _, H, I, rfl, k G H _ (.refl l) (.bl _)⟩
    have := (okD_lay a 20 h1).2
    have := Nat.min_le_left a.depth b.depth
    omega
  · cases e
theorem o_ltG (hu : X.A.units + 64 < cLine) : OpR X (compareOp .Lt) (r2T X.K ltG) := OpR.alt o_lt (op_cmpG (g := W.dataLt) hu fun ra rb h hn hd hq => W.lt_data ra rb h hn hd hq) fun a b o e => by
  unfold ltG at e
  split at e
  · rename_i o' e'; cases e; exact .inl e'
  · exact .inr e
theorem o_gtG (hu : X.A.units + 64 < cLine) : OpR X (compareOp .Gt) (r2T X.K gtG) := OpR.alt o_gt (op_cmpG (g := fun a b => W.dataLt b a) hu fun ra rb h hn hd hq => W.gt_data ra rb h hn hd hq) fun a b o e => by
  unfold gtG at e
  split at e
  · rename_i o' e'; cases e; exact .inl e'
  · exact .inr e
theorem o_leG (hu : X.A.units + 64 < cLine) : OpR X (compareOp .LtE) (r2T X.K leG) := OpR.alt o_le (op_cmpG (g := fun a b => !W.dataLt b a) hu fun ra rb h hn hd hq => W.le_data ra rb h hn hd hq) fun a b o e => by
  unfold leG at e
  split at e
  · rename_i o' e'; cases e; exact .inl e'
  · exact .inr e
theorem o_geG (hu : X.A.units + 64 < cLine) : OpR X (compareOp .GtE) (r2T X.K geG) := OpR.alt o_ge (op_cmpG (g := fun a b => !W.dataLt a b) hu fun ra rb h hn hd hq => W.ge_data ra rb h hn hd hq) fun a b o e => by
  unfold geG at e
  split at e
  · rename_i o' e'; cases e; exact .inl e'
  · exact .inr e
end
/-! ### a list's methods that look: count, index; remove -/
def placeT (ts : List T) (d : T) : Option Nat := ts.findIdx? fun y => PyData.eqv y d
def remT : T → List T → Option (T × T)
  | .list ts, [d] => if okA 19 ts && okD 20 d then match placeT ts d with
      | some j => some (.list (ts.eraseIdx j), .none)
      | none => none
    else none
  | _, _ => none
def cntT : T → List T → Option Out
  | .list ts, [d] => if okA 19 ts && okD 20 d then some (.fz (.int ((ts.countP fun y => PyData.eqv y d : Nat) : Int))) else none
  | _, _ => none
def idxT : T → List T → Option Out
  | .list ts, [d] => if okA 19 ts && okD 20 d then match placeT ts d with
      | some j => some (.fz (.int (j : Nat)))
      | none => none
    else none
  | _, _ => none
def mBm (F : T → List T → Option Out) (mo : ME) (ms : MA) : ME := fun cs => match mo cs with
  | some (r, cs1) => match pk r cs1 with
    | some (.list _) => match ms cs1 with
      | some (rs, cs2) => match pk r cs2, pks rs cs2 with
        | some t, some ts => match F t ts with
          | some o => some (o.rs, cs2)
          | none => none
        | _, _ => none
      | none => none
    | _ => none
  | none => none
def rR (K : Fg) (F : T → List T → Option Out) : V → List V → Hp → VK → Prop := fun x vs H Q => ∃ G t ts o, Le G H ∧ Peek K G H t x ∧ Peeks K G H ts vs ∧ F t ts = some o ∧ ∀ G' H' v, Ext G H G' H' → OutOk K H G' H' o v → Q v H'
section
variable {X : Cx} {K : Fg} {σ : L2.St} {H : Hp} {Q : VK} {F : T → List T → Option Out} {mo : ME} {ms : MA}
theorem imp_bm (h : tS K (mBm F mo ms) σ H Q) : tBM K "list" (rR K F) (tS K mo) (tA K ms) σ H Q := by
  obtain ⟨G, cs, R, r, cs', e, k⟩ := h
  simp only [mBm] at e
  split at e
  · rename_i r1 cs1 h1
    split at e
    · rename_i us hp
      split at e
      · rename_i rs cs2 h2
        split at e
        · rename_i t ts hp2 hps
          split at e
          · rename_i o ho
            cases e
            refine ⟨G, cs, R, r1, cs1, h1, fun G1 H1 x f1 R1 ok1 y1 => ⟨?_, G1, cs1, R1, rs, cs', h2, fun G2 H2 vs f2 R2 oks => ⟨G2, t, ts, o, R2.le, (ok1.mono f2).peek R2 hp2, oks.peeks R2 hps, ho, fun G3 H3 v x3 oo => ?_⟩⟩⟩
            · obtain ⟨a, ys, rfl, hr, _⟩ := (ok1.peek R1 hp).lst R1.le
              exact .inl ⟨rfl, ys, .inl hr⟩
            · obtain ⟨q1, q2⟩ := oo.rs R2 x3
              exact k G3 H3 v ((f1.trans f2).trans (.ext x3)) (R2.ext x3) q1 (q2.up (f1.trans f2))
          · cases e
        · cases e
      · cases e
    · cases e
  · cases e
theorem se_bm {o e : Expr} {es : List Expr} {name : Str} {apos cpos : Pos} {id : String} (slot : Slot "list" name id) (hty : typeOf (.builtin id) = pure (.type "method_descriptor")) (hm : MtR X id (rR X.K F)) (ho : SE X o mo) (ha : SA X (e :: es) ms)
    (hbase : attributeBase o name X.env (eval o X.env) = eval o X.env := by rfl)
    (hfew : ((backTo cpos (starEach (e :: es) X.env)).all (fun x => !x.1) && (backToKw cpos (keywordEach [] X.env)).all (fun x => x.1.isSome)
      && decide ((e :: es).length + ([] : List Keyword).length + (if ([] : List Keyword).isEmpty then 0 else 1) < 30)) = true := by rfl)
    (hline : (apos.endLine == cpos.line) = true := by rfl) (hs : starEach (e :: es) X.env = (false, eval e X.env) :: starEach es X.env := by rfl) (hplain : (backTo cpos (starEach es X.env)).any (·.1) = false := by rfl) :
    SE X (.Call (.Attribute o name apos) (e :: es) [] cpos) (mBm F mo ms) :=
  PE.imp (pe_bm PySem.F.plainAttrs_list slot hty hm ho ha hbase hfew hline hs hplain) fun _ _ _ h => imp_bm h
/-- what the items and the other one read as -/
theorem eq_items {pins : List (Addr × Obj)} {s : Shared} {G : Hp} {ts : List T} {vs : List V} {us : List Value} {d : T} {y : V} {u : Value} (hu : X.A.units + 65 < cLine) (I : Inv X pins σ H s) (l : Le G H) (rs : Rels X.K G ts vs) (rv : Vals vs us) (h1 : okA 19 ts = true) (rd : Dp X.K H y d) (ry : RelV y u) (h2 : okD 20 d = true) :
    (∀ w, w ∈ us.toArray → SeqAt.EqAt X.A.in1 s w u (PyData.eqv (SeqAt.readOf s.heap w) d)) ∧ us.map (SeqAt.readOf s.heap) = ts := by
  obtain ⟨as, ra⟩ := reads_rels I l rs h1 rv
  obtain ⟨bs, rb⟩ := Dp.reads I d y u rd ry
  have hl := (okA_lay ts 19 h1).1
  refine ⟨SeqAt.items_eqAt (vs := us.toArray) (by simpa using ra) rb hl (okD_lay d 20 h2).1 ?_, SeqAt.readsAll_map ts us as hl ra⟩
  have := depth_of h1
  have := Nat.min_le_left (PyData.depthAll ts) d.depth
  omega
theorem at_map' {us : List Value} {ts : List T} {f : Value → T} (h : us.map f = ts) (m : Nat) (hm : m < us.toArray.size) : ∃ h2 : m < ts.length, f us.toArray[m] = ts[m] := by
  subst h
  refine ⟨by simpa using hm, by simp⟩
theorem mt_cnt (hu : X.A.units + 65 < cLine) : MtR X "list.count" (rR X.K cntT) := by
  intro pins s σ H x xs v us Q I rx rxs h
  obtain ⟨G, t, ts, o, l, pt, ps, e, k⟩ := h
  unfold cntT at e
  split at e
  · rename_i ts d
    split at e
    · rename_i hk
      cases e
      obtain ⟨h1, h2⟩ := Bool.and_eq_true _ _ |>.mp hk
      obtain ⟨a, ys, rfl, hr, rs⟩ := pt.lst l
      obtain ⟨y, rfl, py⟩ := ps.one
      cases rx
      obtain ⟨u, rfl, ru⟩ := rxs.one
      obtain ⟨its, rv, ⟨⟨cls, dd, data, sl⟩, n, ho, hc, hdn, hd⟩, hlen⟩ := I.list (.inl hr)
      simp only at hc hd
      subst hc hd
      obtain ⟨q1, q2⟩ := eq_items hu I l rs rv h1 (py.dp l h2) ru h2
      refine call_meets PySem.F.slot_list_count ⟨_, ho, rfl⟩ PySem.F.entry_list_count (PySem.F.args_list_count_2 _ _) (SeqAt.list_countAt a its.toArray n dd sl u (fun w => PyData.eqv (SeqAt.readOf s.heap w) d)) ⟨ho, q1, ?_⟩
      refine ⟨.int ((ts.countP fun y => PyData.eqv y d : Nat) : Int), H, I.tok _, ⟨s.toks, ?_⟩, k G H _ (.refl l) (.int _)⟩
      have : its.toArray.toList.countP (fun w => PyData.eqv (SeqAt.readOf s.heap w) d) = ts.countP fun y => PyData.eqv y d := by
        rw [← q2, List.countP_map]; rfl
      rw [this]
    · cases e
  · cases e
theorem mt_idx (hu : X.A.units + 65 < cLine) : MtR X "list.index" (rR X.K idxT) := by
  intro pins s σ H x xs v us Q I rx rxs h
  obtain ⟨G, t, ts, o, l, pt, ps, e, k⟩ := h
  unfold idxT at e
  split at e
  · rename_i ts d
    split at e
    · rename_i hk
      obtain ⟨h1, h2⟩ := Bool.and_eq_true _ _ |>.mp hk
      split at e
      · rename_i j hj
        cases e
        obtain ⟨a, ys, rfl, hr, rs⟩ := pt.lst l
        obtain ⟨y, rfl, py⟩ := ps.one
        cases rx
        obtain ⟨u, rfl, ru⟩ := rxs.one
        obtain ⟨its, rv, ⟨⟨cls, dd, data, sl⟩, n, ho, hc, hdn, hd⟩, hlen⟩ := I.list (.inl hr)
        simp only at hc hd
        subst hc hd
        obtain ⟨q1, q2⟩ := eq_items hu I l rs rv h1 (py.dp l h2) ru h2
        obtain ⟨j1, j2, j3⟩ := List.findIdx?_eq_some_iff_getElem.mp hj
        have hlt : its.length = ts.length := by rw [← q2, List.length_map]
        have hvl := rv.length
        have hsl := sizeLine_eq
        have hjs : j < its.toArray.size := by rw [List.size_toArray]; omega
        refine call_meets PySem.F.slot_list_index ⟨_, ho, rfl⟩ PySem.F.entry_list_index (PySem.F.args_list_index_2 _ _) (SeqAt.list_indexAt a its.toArray n dd sl u (fun w => PyData.eqv (SeqAt.readOf s.heap w) d) j hjs (by omega) ?_ ?_) ⟨ho, q1, ?_⟩
        · obtain ⟨_, e⟩ := at_map' q2 j hjs
          simp only [e]; exact j2
        · intro m hm hmj
          obtain ⟨_, e⟩ := at_map' q2 m hm
          simp only [e]
          have := j3 m hmj
          simpa using this
        · exact ⟨.int (j : Nat), H, I.tok _, ⟨_, rfl⟩, k G H _ (.refl l) (.int _)⟩
      · cases e
    · cases e
  · cases e
theorem mt_rem (hu : X.A.units + 65 < cLine) : MtR X "list.remove" (rM X.K remT) := by
  intro pins s σ H x xs v us Q I rx rxs h
  obtain ⟨G, p, t, ts, t', u0, rfl, l, n0, ow, rs, e, k⟩ := h
  unfold remT at e
  split at e
  · rename_i ts d
    split at e
    · rename_i hk
      obtain ⟨h1, h2⟩ := Bool.and_eq_true _ _ |>.mp hk
      split at e
      · rename_i j hj
        cases e
        cases ow with
        | lst hp rl =>
          cases rs with
          | cons ra rb =>
            cases rb
            cases rx
            obtain ⟨u, rfl, ru⟩ := rxs.one
            obtain ⟨z, its, n, rv, hl, e⟩ := I.lstM hp
            obtain ⟨q1, q2⟩ := eq_items hu I l rl rv h1 ((ra.mono l).dp 20 h2) ru h2
            obtain ⟨j1, j2, j3⟩ := List.findIdx?_eq_some_iff_getElem.mp hj
            have hlt : its.length = ts.length := by rw [← q2, List.length_map]
            have hvl := rv.length
            have hjs : j < its.toArray.size := by rw [List.size_toArray]; omega
            refine call_meets PySem.F.slot_list_remove ⟨_, e, rfl⟩ PySem.F.entry_list_remove (PySem.F.args_list_remove_2 _ _) (SeqAt.list_removeAt p its.toArray n none #[] u (fun w => PyData.eqv (SeqAt.readOf s.heap w) d) j hjs ?_ ?_ (by rw [List.size_toArray]; omega)) ⟨e, q1, ?_⟩
            · obtain ⟨_, e⟩ := at_map' q2 j hjs
              simp only [e]; exact j2
            · intro m hm hmj
              obtain ⟨_, e⟩ := at_map' q2 m hm
              simp only [e]
              have := j3 m hmj
              simpa using this
            · have rr := rv.eraseIdx j
              refine ⟨.non, _, I.lset (its' := its.eraseIdx j) (t' := s.toks) hp e ?_ rr ?_, rfl, k _ _ (fun q ne => upd_ne ne) (.lst upd_same (rl.eraseIdx j)) .non⟩
              · show its.toArray.eraseIdxIfInBounds j = (its.eraseIdx j).toArray
                rw [List.eraseIdxIfInBounds_toArray]
              · have := List.length_eraseIdx_le its j
                have := rr.length
                omega
      · cases e
    · cases e
  · cases e
end
/-! ### list(range(..)), tuple(range(..)) -/
def rgOk (a b : Int) : Bool := decide (-(2 ^ 62) ≤ a) && decide (a < 2 ^ 62) && decide (-(2 ^ 62) ≤ b) && decide (b < 2 ^ 62) && decide ((b - a).toNat ≤ 2 ^ 24)
def mRgO (tp : Bool) (a b : Int) (cs : Cs) : Option (Rs × Cs) := if rgOk a b then (if tp then some (.fz (.tuple (rngT a (b - a).toNat)), cs) else some (.nw (.list (rngT a (b - a).toNat)), cs)) else none
def mRng1 (tp : Bool) (m : ME) : ME := fun cs => match m cs with
  | some (.fz (.int j), cs1) => mRgO tp 0 j cs1
  | _ => none
def mRng2 (tp : Bool) (m n : ME) : ME := fun cs => match m cs with
  | some (.fz (.int i), cs1) => match n cs1 with
    | some (.fz (.int j), cs2) => mRgO tp i j cs2
    | _ => none
  | _ => none
section
variable {X : Cx} {K : Fg} {σ : L2.St} {H : Hp} {Q : VK} {m n : ME} {a b : Expr} {p p2 pos pos2 : Pos}
theorem rgOk_ok {a b : Int} (h : rgOk a b = true) : RgOk a b := by
  simp only [rgOk, Bool.and_eq_true, decide_eq_true_eq] at h
  exact ⟨h.1.1.1.1, h.1.1.1.2, h.1.1.2, h.1.2, h.2⟩
theorem rg_rels {K : Fg} {G : Hp} (a b : Int) : Rels K G (rngT a (b - a).toNat) (rgV a b) := by
  unfold rngT rgV
  generalize List.range (b - a).toNat = l
  induction l with
  | nil => exact .nil
  | cons x l ih => exact .cons (.int _) ih
theorem rg_fin {G0 H0 G1 H1 : Hp} {cs0 cs1 cs' : Cs} {r : Rs} {tp : Bool} {i j : Int} (R1 : SR K G1 H1 cs1 σ) (f : FrE σ G0 H0 cs0 G1 H1 cs1) (e : mRgO tp i j cs1 = some (r, cs')) (k : ∀ G' H' v, FrE σ G0 H0 cs0 G' H' cs' → SR K G' H' cs' σ → RsOk K G' H' cs' σ r v → Young H0 r v → Q v H') :
    RgOk i j ∧ ((tp = false → ∀ q, H1 q = none → Q (.ref q) (upd H1 q (.lst (rgV i j)))) ∧ (tp = true → ∀ q, H1 q = none → Q (.ref q) (upd H1 q (.tup (rgV i j))))) := by
  unfold mRgO at e
  split at e
  · rename_i hk
    refine ⟨rgOk_ok hk, fun ht q nq => ?_, fun ht q nq => ?_⟩
    · subst ht
      cases e
      have x := Ext.own R1.le nq (o := .lst (rgV i j))
      exact k _ _ _ (f.trans (.ext x)) (R1.ext x) ⟨q, rfl, R1.le.dom q nq, .lst upd_same (rg_rels i j), fun z => (R1.own_ne z).1 nq⟩ fun p e => by cases e; exact f.toFr.dom q nq
    · subst ht
      cases e
      have x := Ext.both (o := .tup (rgV i j)) R1.le nq trivial
      exact k _ _ _ (f.trans (.ext x)) (R1.ext x) (.tup upd_same (rg_rels i j)) trivial
  · cases e
theorem imp_rg1 {tp : Bool} (h : tS K (mRng1 tp m) σ H Q) : if tp then tTupRg (tRg1 (tS K m)) σ H Q else tLstRg (tRg1 (tS K m)) σ H Q := by
  obtain ⟨G, cs, R, r, cs', e, k⟩ := h
  simp only [mRng1] at e
  split at e
  · rename_i j cs1 h1
    cases tp with
    | false =>
      refine ⟨G, cs, R, _, cs1, h1, fun G1 H1 v f1 R1 ok1 y1 => ?_⟩
      cases ok1
      obtain ⟨q1, q2, _⟩ := rg_fin R1 f1 e k
      exact ⟨j, rfl, q1, q2 rfl⟩
    | true =>
      refine ⟨G, cs, R, _, cs1, h1, fun G1 H1 v f1 R1 ok1 y1 => ?_⟩
      cases ok1
      obtain ⟨q1, _, q2⟩ := rg_fin R1 f1 e k
      exact ⟨j, rfl, q1, q2 rfl⟩
  · cases e
theorem imp_rg2 {tp : Bool} (h : tS K (mRng2 tp m n) σ H Q) : if tp then tTupRg (tRg2 (tS K m) (tS K n)) σ H Q else tLstRg (tRg2 (tS K m) (tS K n)) σ H Q := by
  obtain ⟨G, cs, R, r, cs', e, k⟩ := h
  simp only [mRng2] at e
  split at e
  · rename_i i cs1 h1
    split at e
    · rename_i j cs2 h2
      cases tp with
      | false =>
        refine ⟨G, cs, R, _, cs1, h1, fun G1 H1 v f1 R1 ok1 y1 => ?_⟩
        cases ok1
        refine ⟨G1, cs1, R1, _, cs2, h2, fun G2 H2 v f2 R2 ok2 y2 => ?_⟩
        cases ok2
        obtain ⟨q1, q2, _⟩ := rg_fin R2 (f1.trans f2) e k
        exact ⟨i, j, rfl, rfl, q1, q2 rfl⟩
      | true =>
        refine ⟨G, cs, R, _, cs1, h1, fun G1 H1 v f1 R1 ok1 y1 => ?_⟩
        cases ok1
        refine ⟨G1, cs1, R1, _, cs2, h2, fun G2 H2 v f2 R2 ok2 y2 => ?_⟩
        cases ok2
        obtain ⟨q1, _, q2⟩ := rg_fin R2 (f1.trans f2) e k
        exact ⟨i, j, rfl, rfl, q1, q2 rfl⟩
    · cases e
  · cases e
theorem se_listRg1 (hc : X.calm = true) (hg : Gl X "list") (hm : X.mg "list" = none) (hg2 : Gl X "range") (hm2 : X.mg "range" = none) (ha : SE X a m) (na : starEach [a] X.env = (false, eval a X.env) :: starEach [] X.env := by rfl)
    (nb : starEach [.Call (.Name "range" p2) [a] [] pos2] X.env = (false, eval (.Call (.Name "range" p2) [a] [] pos2) X.env) :: starEach [] X.env := by rfl) : SE X (.Call (.Name "list" p) [.Call (.Name "range" p2) [a] [] pos2] [] pos) (mRng1 false m) :=
  PE.imp (pe_listRg hc hg hm (prg_1 hg2 hm2 ha na) nb) fun _ _ _ h => imp_rg1 h
theorem se_tupleRg1 (hc : X.calm = true) (hg : Gl X "tuple") (hm : X.mg "tuple" = none) (hg2 : Gl X "range") (hm2 : X.mg "range" = none) (ha : SE X a m) (na : starEach [a] X.env = (false, eval a X.env) :: starEach [] X.env := by rfl)
    (nb : starEach [.Call (.Name "range" p2) [a] [] pos2] X.env = (false, eval (.Call (.Name "range" p2) [a] [] pos2) X.env) :: starEach [] X.env := by rfl) : SE X (.Call (.Name "tuple" p) [.Call (.Name "range" p2) [a] [] pos2] [] pos) (mRng1 true m) :=
  PE.imp (pe_tupRg hc hg hm (prg_1 hg2 hm2 ha na) nb) fun _ _ _ h => imp_rg1 h
theorem se_listRg2 (hc : X.calm = true) (hg : Gl X "list") (hm : X.mg "list" = none) (hg2 : Gl X "range") (hm2 : X.mg "range" = none) (ha : SE X a m) (hb : SE X b n) (na : starEach [a, b] X.env = (false, eval a X.env) :: starEach [b] X.env := by rfl)
    (nc : starEach [b] X.env = (false, eval b X.env) :: starEach [] X.env := by rfl) (hp : (backTo pos2 (starEach [b] X.env)).any (·.1) = false := by rfl)
    (nb : starEach [.Call (.Name "range" p2) [a, b] [] pos2] X.env = (false, eval (.Call (.Name "range" p2) [a, b] [] pos2) X.env) :: starEach [] X.env := by rfl) : SE X (.Call (.Name "list" p) [.Call (.Name "range" p2) [a, b] [] pos2] [] pos) (mRng2 false m n) :=
  PE.imp (pe_listRg hc hg hm (prg_2 hg2 hm2 ha hb na nc hp) nb) fun _ _ _ h => imp_rg2 h
theorem se_tupleRg2 (hc : X.calm = true) (hg : Gl X "tuple") (hm : X.mg "tuple" = none) (hg2 : Gl X "range") (hm2 : X.mg "range" = none) (ha : SE X a m) (hb : SE X b n) (na : starEach [a, b] X.env = (false, eval a X.env) :: starEach [b] X.env := by rfl)
    (nc : starEach [b] X.env = (false, eval b X.env) :: starEach [] X.env := by rfl) (hp : (backTo pos2 (starEach [b] X.env)).any (·.1) = false := by rfl)
    (nb : starEach [.Call (.Name "range" p2) [a, b] [] pos2] X.env = (false, eval (.Call (.Name "range" p2) [a, b] [] pos2) X.env) :: starEach [] X.env := by rfl) : SE X (.Call (.Name "tuple" p) [.Call (.Name "range" p2) [a, b] [] pos2] [] pos) (mRng2 true m n) :=
  PE.imp (pe_tupRg hc hg hm (prg_2 hg2 hm2 ha hb na nc hp) nb) fun _ _ _ h => imp_rg2 h
end
end TL
namespace TL
open PySem PySem.Spec L2
/-! ### a comprehension over an own list that its parts do not name: the list stays one's own -/
section
variable {X : Cx} {K : Fg} {σ : L2.St} {H : Hp} {Q : VK} {own vs : List Nat} {mi : MI} {g : MG} {tt : MT} {te : ME}
def tLcD (J : It) (g : TG) (tt : TT) (te : TE) (vs : List Nat) (σ : L2.St) (H1 : Hp) (D : Addr) (Q : VK) : Prop := ∃ W : Nat → Nat → Hp → Prop, (∃ m, W 0 m (upd H1 D (.lst []))) ∧ ∀ i m H, W i m H →
  (J.stop i H ∧ Q (.ref D) H) ∨ (J.go i H ∧ ∃ Nx : Hp → Prop, (∀ H', Nx H' → ∃ m', m' < m ∧ W (i + 1) m' H') ∧ ∀ x H', J.yld i H x H' → g x (wipe σ vs) H' fun σ2 H2 => wipe σ2 vs = wipe σ vs ∧ tt σ2 H2 fun b H3 =>
    if b = true then te σ2 H3 fun y H4 => ∃ acc, H4 D = some (.lst acc) ∧ acc.length < sizeLine ∧ Nx (upd H4 D (.lst (acc ++ [y]))) else Nx H3)
theorem lc_tail {G1 H1 : Hp} {cs1 cs2 : Cs} {J : It} {ts tot : List T} (hv : ∀ i ∈ vs, i ∈ own) (hlen : ts.length ≤ sizeLine) (R1 : SR K G1 H1 cs1 σ)
    (W : ∀ G' H' cs', FrE (wipe σ own) G1 H1 (wipeC cs1 own) G' H' cs' → Le G' H' → (∀ i t, ts[i]? = some t → J.go i H' ∧ ∀ x H2, J.yld i H' x H2 → ∃ G2, Ext G' H' G2 H2 ∧ Rel K G2 t x) ∧ ∀ i, ts.length ≤ i → J.stop i H')
    (h2 : mLcL own g tt te ts (wipeC cs1 own) = some (tot, cs2))
    (k : ∀ G' H' v, FrE σ G1 H1 cs1 G' H' (restC cs1 own cs2) → SR K G' H' (restC cs1 own cs2) σ → RsOk K G' H' (restC cs1 own cs2) σ (.nw (.list tot)) v → Young H1 (.nw (.list tot)) v → Q v H') (D : Addr) (nD : H1 D = none) :
    tLcD J (gS K vs g) (tT K tt) (tS K te) own σ H1 D Q := by
  have base : SR K G1 (upd H1 D (.lst [])) (wipeC cs1 own) (wipe σ own) := (R1.wipe).ext (.own R1.le nD)
  have gD : G1 D = none := R1.le.dom D nD
  refine ⟨fun i m H' => m = ts.length - i ∧ i ≤ ts.length ∧ ∃ G' cs' acc ys, FrE (wipe σ own) G1 H1 (wipeC cs1 own) G' H' cs' ∧ SR K G' H' cs' (wipe σ own) ∧ (∀ i ∈ own, ∀ c, cs'[i]? = some c → c = .un) ∧
      G' D = none ∧ ¬ OwnAt cs' (wipe σ own) D ∧ Own K G' H' (.list acc) D ∧ acc.length ≤ i ∧ mLcL own g tt te (ts.drop i) cs' = some (ys, cs2) ∧ acc ++ ys = tot,
    ⟨ts.length, rfl, Nat.zero_le _, G1, _, [], tot, .ext (.own R1.le nD), base, fun i hi c hc => ?_, gD, fun z => (R1.wipe.own_ne z).1 nD, .lst upd_same .nil, Nat.le_refl _, h2, rfl⟩, ?_⟩
  · have hl : i < cs1.length := by have := lt_of_get hc; rw [wipeC_length] at this; exact this
    rw [wipeC_in hi hl] at hc
    exact (Option.some.inj hc).symm
  rintro i m H' ⟨rfl, hi, G', cs', acc, ys, f', R', un', gD', nO', oD', la', e', et⟩
  by_cases hlt : i < ts.length
  · have ht : ts[i]? = some ts[i] := List.getElem?_eq_getElem hlt
    rw [List.drop_eq_getElem_cons hlt] at e'
    obtain ⟨go, yl⟩ := (W G' H' cs' f' R'.le).1 i _ ht
    simp only [mLcL] at e'
    split at e'
    · cases e'
    · rename_i c1 hg
      refine .inr ⟨go, fun H'' => ∃ G'' cs'' acc' ys', FrE (wipe σ own) G1 H1 (wipeC cs1 own) G'' H'' cs'' ∧ SR K G'' H'' cs'' (wipe σ own) ∧ (∀ i ∈ own, ∀ c, cs''[i]? = some c → c = .un) ∧
          G'' D = none ∧ ¬ OwnAt cs'' (wipe σ own) D ∧ Own K G'' H'' (.list acc') D ∧ acc'.length ≤ i + 1 ∧ mLcL own g tt te (ts.drop (i + 1)) cs'' = some (ys', cs2) ∧ acc' ++ ys' = tot,
        fun H'' n => ⟨_, by omega, rfl, hlt, n⟩, fun x H2 y => ?_⟩
      obtain ⟨G2, x2, rel⟩ := yl x H2 y
      have R2 := R'.ext x2
      refine ⟨G2, cs', _, R2, rel, c1, hg, fun σ2 off coff f2 RR => ?_⟩
      have ew : wipe σ2 own = wipe σ own := by
        rw [off.wipe hv]
        refine List.ext_getElem? fun j => ?_
        by_cases hj : j ∈ own
        · by_cases hl : j < σ.length
          · rw [wipe_in hj (by rw [wipe_length]; exact hl), wipe_in hj hl]
          · rw [List.getElem?_eq_none (by rw [wipe_length, wipe_length]; omega), List.getElem?_eq_none (by rw [wipe_length]; omega)]
        · rw [wipe_out hj]
      refine ⟨ew, ?_⟩
      have co : ∀ j, j ∉ own → c1[j]? = cs'[j]? := fun j hj => coff.2.1 j fun z => hj (hv j z)
      have co' : ∀ j ∈ own, ∀ t, ¬ OwC c1 j t := fun j hj t z => by
        by_cases hv' : j ∈ vs
        · obtain ⟨u, hu⟩ := coff.2.2 j hv'
          rcases z with z | z <;> rw [hu] at z <;> cases z
        · rcases z with z | z <;> rw [coff.2.1 j hv'] at z <;> cases un' j hj _ z
      -- D through the turn
      have nO1 : ¬ OwnAt c1 σ2 D := fun ⟨j, t, a, b⟩ => by
        have hj : j ∉ own := fun hj => co' j hj t a
        refine nO' ⟨j, t, ?_, by rw [← ew, wipe_out hj]; exact b⟩
        rcases a with a | a <;> rw [co j hj] at a
        · exact .inl a
        · exact .inr a
      obtain ⟨obD, eD, _⟩ := oD'.some
      have hD2 : H2 D = some obD := x2.h D obD eD
      have gD2 : G2 D = none := (x2.old D oD'.noT).trans gD'
      have oD2 : Own K G2 H2 (.list acc) D := oD'.mono x2.g (by rw [hD2, eD])
      -- what a turn that ended so gives
      have fin : ∀ {G3 H3 : Hp} {c3 : Cs}, FrE σ2 G2 H2 c1 G3 H3 c3 → SR K G3 H3 c3 σ2 →
          FrE (wipe σ own) G1 H1 (wipeC cs1 own) G3 H3 (wipeC c3 own) ∧ SR K G3 H3 (wipeC c3 own) (wipe σ own) ∧ (∀ i ∈ own, ∀ c, (wipeC c3 own)[i]? = some c → c = .un) ∧ G3 D = none ∧ ¬ OwnAt (wipeC c3 own) (wipe σ own) D ∧ Own K G3 H3 (.list acc) D :=
        fun {G3 H3 c3} f3 R3 => by
          have hl3 : c3.length = cs'.length := by
            have h1 := congrArg List.length ew
            rw [wipe_length, wipe_length] at h1
            rw [R3.len, R'.len, wipe_length, h1]
          have ft := turn_fr un' ew co co' f3 hl3
          have Rw : SR K G3 H3 (wipeC c3 own) (wipe σ own) := by
            have := R3.wipe (own := own)
            rw [ew] at this
            exact this
          refine ⟨(f'.trans (.ext x2)).trans ft, Rw, fun j hj c hc => ?_, f3.gfr D oD2.noT gD2 nO1, fun z => ?_, oD2.mono f3.g (by rw [hD2]; exact f3.keep D obD hD2 nO1)⟩
          · have hl : j < c3.length := by have := lt_of_get hc; rw [wipeC_length] at this; exact this
            rw [wipeC_in hj hl] at hc
            exact (Option.some.inj hc).symm
          · rcases ft.own D z with z | z
            · exact nO' z
            · rw [hD2] at z; cases z
      split at e'
      · rename_i c2 htt
        refine ⟨G2, c1, RR, true, c2, htt, fun G3 H3 f3 R3 => ?_⟩
        refine iteT ?_
        split at e'
        · rename_i r c3 hte
          split at e'
          · rename_i yv c4 hfr
            split at e'
            · rename_i ys' c5 hrest
              cases e'
              refine ⟨G3, c2, R3, r, c3, hte, fun G4 H4 v f4 R4 ok yg => ?_⟩
              obtain ⟨G5, f5, R5, rel5⟩ := frz_ok f4 R4 ok yg hfr
              obtain ⟨q1, q2, q3, q4, q5, q6⟩ := fin (f3.trans f5) R5
              cases q6 with
              | lst hDl rsl =>
                refine ⟨_, hDl, ?_, G5, _, acc ++ [yv], ys', ?_, ?_, q3, q4, q5, .lst upd_same (rsl.app (.one rel5)), ?_, hrest, ?_⟩
                · rw [rsl.length]
                  omega
                · refine ⟨⟨q1.g, fun p o a b => ?_, q1.gfr, q1.own, fun p n => ?_, q1.bo, q1.bo'⟩, q1.fzk, q1.live, q1.back⟩
                  · have ne : p ≠ D := by rintro rfl; rw [nD] at a; cases a
                    rw [upd_ne ne]
                    exact q1.keep p o a b
                  · have ne : p ≠ D := by rintro rfl; exact n nD
                    rw [upd_ne ne]
                    exact q1.hmo p n
                · refine ⟨⟨fun a u pu rd => ?_, fun a n => ?_, fun a vs tq => ?_⟩, q2.len, q2.fz, fun j t a => ?_, q2.apart⟩
                  · have ne : a ≠ D := by
                      rintro rfl
                      rcases rd with rd | ⟨_, rd⟩ <;> rw [q4] at rd <;> cases rd
                    rcases q2.le.rd a u pu rd with z | ⟨o, z⟩
                    · exact .inl (by rw [upd_ne ne]; exact z)
                    · exact .inr ⟨o, by rw [upd_ne ne]; exact z⟩
                  · by_cases ne : a = D
                    · subst ne; exact q4
                    · rw [upd_ne ne] at n; exact q2.le.dom a n
                  · have ne : a ≠ D := by rintro rfl; rw [q4] at tq; cases tq
                    rw [upd_ne ne]; exact q2.le.tp a vs tq
                  · obtain ⟨p, x, y, z⟩ := q2.ow j t a
                    have ne : p ≠ D := by rintro rfl; exact q5 ⟨j, t, a, x⟩
                    exact ⟨p, x, y, z.mono (.refl _) (upd_ne ne)⟩
                · rw [List.length_append, List.length_singleton]; omega
                · rw [List.append_assoc]; exact et
            · cases e'
          · cases e'
        · cases e'
      · rename_i c2 htt
        refine ⟨G2, c1, RR, false, c2, htt, fun G3 H3 f3 R3 => ?_⟩
        refine iteF ?_
        obtain ⟨q1, q2, q3, q4, q5, q6⟩ := fin f3 R3
        exact ⟨G3, _, acc, ys, q1, q2, q3, q4, q5, q6, by omega, e', et⟩
      · cases e'
  · have ei : i = ts.length := by omega
    subst ei
    rw [List.drop_length] at e'
    cases e'
    obtain ⟨fe, Re⟩ := block_end R1 f' R'
    refine .inl ⟨(W G' H' _ f' R'.le).2 _ (Nat.le_refl _), k G' H' _ fe Re ⟨D, rfl, gD', ?_, fun z => ?_⟩ fun q eq => ?_⟩
    · rw [← et, List.append_nil]; exact oD'
    · rcases fe.own D z with z | z
      · exact (R1.own_ne z).1 nD
      · obtain ⟨i, t, a, b⟩ := ‹OwnAt (restC cs1 own cs2) σ D›
        by_cases hi : i ∈ own
        · have a1 : OwC cs1 i t := by
            have hl2 : cs2.length = cs1.length := by rw [R'.len, wipe_length, R1.len]
            rcases a with a | a <;> rw [restC_in hl2 hi] at a
            · exact .inl a
            · exact .inr a
          obtain ⟨p, x, y, z2⟩ := R1.ow i t a1
          rw [b] at x; cases x
          exact z2.ne nD
        · refine nO' ⟨i, t, ?_, by rw [wipe_out hi]; exact b⟩
          rcases a with a | a <;> rw [restC_out hi] at a
          · exact .inl a
          · exact .inr a
    · cases eq
      exact nD

def mLcH (i : Nat) (own : List Nat) (g : MG) (tt : MT) (te : ME) : ME := fun cs => match cs[i]? with
  | some (.ow (.list ts)) => if ts.length ≤ sizeLine ∧ i ∉ own then match mLcL own g tt te ts (wipeC (cs.set i .un) own) with
      | some (ys, c2) => some (.nw (.list ys), (restC (cs.set i .un) own c2).set i (.ow (.list ts)))
      | none => none
    else none
  | _ => mLc own (iSeq (mV i)) g tt te cs
/-- an own slot is hidden -/
theorem SR.hide {G H : Hp} {cs : Cs} (R : SR K G H cs σ) (i : Nat) : SR K G H (cs.set i .un) σ := by
  have get : ∀ {j : Nat} {x : Cell}, (cs.set i .un)[j]? = some x → x ≠ .un → j ≠ i ∧ cs[j]? = some x := fun {j x} h n => by
    by_cases ne : j = i
    · subst ne
      by_cases hl : j < cs.length
      · rw [List.getElem?_set_self hl] at h
        exact absurd (Option.some.inj h).symm n
      · rw [List.getElem?_eq_none (by rw [List.length_set]; omega)] at h; cases h
    · rw [set_other ne] at h; exact ⟨ne, h⟩
  have oc : ∀ {j : Nat} {t : T}, OwC (cs.set i .un) j t → j ≠ i ∧ OwC cs j t := fun {j t} h => by
    rcases h with h | h
    · obtain ⟨a, b⟩ := get h (by simp); exact ⟨a, .inl b⟩
    · obtain ⟨a, b⟩ := get h (by simp); exact ⟨a, .inr b⟩
  exact ⟨R.le, by rw [List.length_set]; exact R.len, fun j t a => R.fz j t (get a (by simp)).2, fun j t a => R.ow j t (oc a).2, fun j l t u p a b => R.apart j l t u p (oc a).2 (oc b).2⟩
theorem hide_oc {cs : Cs} {i j : Nat} {t : T} (h : OwC (cs.set i .un) j t) : j ≠ i ∧ OwC cs j t := by
  have get : ∀ {x : Cell}, (cs.set i .un)[j]? = some x → x ≠ .un → j ≠ i ∧ cs[j]? = some x := fun {x} h n => by
    by_cases ne : j = i
    · subst ne
      by_cases hl : j < cs.length
      · rw [List.getElem?_set_self hl] at h
        exact absurd (Option.some.inj h).symm n
      · rw [List.getElem?_eq_none (by rw [List.length_set]; omega)] at h; cases h
    · rw [set_other ne] at h; exact ⟨ne, h⟩
  rcases h with h | h
  · obtain ⟨a, b⟩ := get h (by simp); exact ⟨a, .inl b⟩
  · obtain ⟨a, b⟩ := get h (by simp); exact ⟨a, .inr b⟩
/-- .. and shown again -/
theorem SR.show' {G H G' H' : Hp} {cs c' : Cs} {i : Nat} {t : T} {p : Addr} (R : SR K G H cs σ) (hc : cs[i]? = some (.ow t)) (ep : σ[i]? = some (some (.ref p))) (f : FrE σ G H (cs.set i .un) G' H' c') (R' : SR K G' H' c' σ) :
    FrE σ G H cs G' H' (c'.set i (.ow t)) ∧ SR K G' H' (c'.set i (.ow t)) σ := by
  have hi : i < cs.length := lt_of_get hc
  have hl : c'.length = cs.length := by rw [R'.len, R.len]
  have hi' : i < c'.length := by omega
  have no : ¬ OwnAt (cs.set i .un) σ p := fun ⟨j, u, a, b⟩ => by
    obtain ⟨ne, a⟩ := hide_oc a
    exact ne (R.apart j i u t p a (.inl hc) b ep)
  obtain ⟨q, eq, gq, oq⟩ := R.ow i t (.inl hc)
  rw [ep] at eq; cases eq
  obtain ⟨ob, eo, _⟩ := oq.some
  have hp : H' p = some ob := f.keep p ob eo no
  have gp : G' p = none := f.gfr p oq.noT gq no
  have own' : Own K G' H' t p := oq.mono f.g (by rw [hp, eo])
  have no' : ¬ OwnAt c' σ p := fun z => by
    rcases f.own p z with z | z
    · exact no z
    · rw [eo] at z; cases z
  have up : ∀ {q : Addr}, OwnAt (cs.set i .un) σ q → OwnAt cs σ q := fun {q} ⟨j, u, a, b⟩ => ⟨j, u, (hide_oc a).2, b⟩
  have off : ∀ {j : Nat}, j ≠ i → (c'.set i (.ow t))[j]? = c'[j]? := fun {j} ne => set_other ne
  have offc : ∀ {j : Nat}, j ≠ i → (cs.set i .un)[j]? = cs[j]? := fun {j} ne => set_other ne
  have at_ : (c'.set i (.ow t))[i]? = some (.ow t) := set_self hi'
  have oc : ∀ {j : Nat} {u : T}, OwC (c'.set i (.ow t)) j u → (j = i ∧ u = t) ∨ (j ≠ i ∧ OwC c' j u) := fun {j u} h => by
    by_cases ne : j = i
    · subst ne
      rcases h with h | h <;> rw [at_] at h
      · exact .inl ⟨rfl, by injection (Option.some.inj h) with h; exact h.symm⟩
      · cases h
    · rcases h with h | h <;> rw [off ne] at h
      · exact .inr ⟨ne, .inl h⟩
      · exact .inr ⟨ne, .inr h⟩
  refine ⟨⟨⟨f.g, fun q o a b => f.keep q o a fun z => b (up z), fun q a b d => f.gfr q a b fun z => d (up z), fun q ⟨j, u, a, b⟩ => ?_, f.hmo, fun j u a => ?_, fun j u a => ?_⟩, fun j u a => ?_, fun j u a => ?_, fun j u a => ?_⟩,
    ⟨R'.le, by rw [List.length_set]; exact R'.len, fun j u a => ?_, fun j u a => ?_, fun j l u w q a b ea eb => ?_⟩⟩
  · rcases oc a with ⟨rfl, rfl⟩ | ⟨ne, a⟩
    · exact .inl ⟨j, u, .inl hc, b⟩
    · rcases f.own q ⟨j, u, a, b⟩ with z | z
      · exact .inl (up z)
      · exact .inr z
  · have ne : j ≠ i := by rintro rfl; rw [hc] at a; cases a
    obtain ⟨u', b, c⟩ := f.bo j u (by rw [offc ne]; exact a)
    exact ⟨u', by rw [off ne]; exact b, c⟩
  · have ne : j ≠ i := by rintro rfl; rw [at_] at a; cases a
    rw [off ne] at a
    obtain ⟨u', b⟩ := f.bo' j u a
    exact ⟨u', by rw [← offc ne]; exact b⟩
  · have ne : j ≠ i := by rintro rfl; rw [hc] at a; cases a
    rw [off ne]
    exact f.fzk j u (by rw [offc ne]; exact a)
  · by_cases ne : j = i
    · subst ne; exact .inl ⟨t, .inl at_⟩
    · have a1 : OwC (cs.set i .un) j u := by
        rcases a with a | a
        · exact .inl (by rw [offc ne]; exact a)
        · exact .inr (by rw [offc ne]; exact a)
      rcases f.live j u a1 with ⟨u', b⟩ | ⟨u', b⟩
      · refine .inl ⟨u', ?_⟩
        rcases b with b | b
        · exact .inl (by rw [off ne]; exact b)
        · exact .inr (by rw [off ne]; exact b)
      · exact .inr ⟨u', by rw [off ne]; exact b⟩
  · rcases oc a with ⟨rfl, rfl⟩ | ⟨ne, a⟩
    · exact ⟨u, .inl hc⟩
    · obtain ⟨u', b⟩ := f.back j u a
      exact ⟨u', (hide_oc b).2⟩
  · have ne : j ≠ i := by rintro rfl; rw [at_] at a; cases a
    rw [off ne] at a
    exact R'.fz j u a
  · rcases oc a with ⟨rfl, rfl⟩ | ⟨ne, a⟩
    · exact ⟨p, ep, gp, own'⟩
    · exact R'.ow j u a
  · rcases oc a with ⟨h1, h2⟩ | ⟨ne, a'⟩
    · rcases oc b with ⟨h3, h4⟩ | ⟨ne2, b'⟩
      · exact h1.trans h3.symm
      · subst h1
        rw [ep] at ea; cases ea
        exact absurd ⟨l, w, b', eb⟩ no'
    · rcases oc b with ⟨h3, h4⟩ | ⟨ne2, b'⟩
      · subst h3
        rw [ep] at eb; cases eb
        exact absurd ⟨j, u, a', ea⟩ no'
      · exact R'.apart j l u w q a' b' ea eb
theorem imp_lcH {i : Nat} (hv : ∀ i ∈ vs, i ∈ own) (h : tS K (mLcH i own g tt te) σ H Q) : tLc (iList K (tVar i)) (gS K vs g) (tT K tt) (tS K te) own σ H Q ∨ tLc (iS K (iSeq (mV i))) (gS K vs g) (tT K tt) (tS K te) own σ H Q := by
  obtain ⟨G, cs, R, r, csf, e, k⟩ := h
  simp only [mLcH] at e
  split at e
  · rename_i ts hc
    refine .inl ?_
    split at e
    · rename_i hh
      obtain ⟨hlen, hio⟩ := hh
      split at e
      · rename_i tot c2 h2
        cases e
        obtain ⟨p, ep, gp, ow⟩ := R.ow i _ (.inl hc)
        cases ow with
        | lst hp rs =>
          rename_i vs0
          have Rh := R.hide i
          have no : ¬ OwnAt (cs.set i .un) σ p := fun ⟨j, u, a, b⟩ => by
            obtain ⟨ne, a⟩ := hide_oc a
            exact ne (R.apart j i u _ p a (.inl hc) b ep)
          have now : ¬ OwnAt (wipeC (cs.set i .un) own) (wipe σ own) p := fun z => by
            obtain ⟨j, u, _, a, b⟩ := ownw z
            exact no ⟨j, u, a, b⟩
          refine ⟨.ref p, ep, p, rfl, ⟨vs0, .inl (.inl hp)⟩, lc_tail hv hlen Rh (fun G' H' cs' f' l' => ?_) h2 fun G' H' v f R' ok y => ?_⟩
          · have hp' : H' p = some (.lst vs0) := f'.keep p _ hp now
            have sq : SqL K H' p vs0 := .inl (.inl hp')
            refine ⟨fun n t ht => ?_, fun n hn => ⟨vs0, sq, by rw [rs.length]; exact hn⟩⟩
            obtain ⟨w, ew, rw'⟩ := rs.get ht
            refine ⟨⟨vs0, w, sq, ew⟩, fun x H2 ⟨e2, yy⟩ => ?_⟩
            subst e2
            have := yy vs0 sq
            rw [ew] at this; cases this
            exact ⟨G', .refl l', rw'.mono f'.g⟩
          · obtain ⟨q1, q2⟩ := R.show' hc ep f R'
            obtain ⟨D, rfl, gD, oD, nO⟩ := ok
            have hD : H D = none := y D rfl
            refine k G' H' _ q1 q2 ⟨D, rfl, gD, oD, fun z => ?_⟩ y
            rcases q1.own D z with z | z
            · exact (R.own_ne z).1 hD
            · obtain ⟨j, u, a, b⟩ := ‹OwnAt _ σ D›
              by_cases ne : j = i
              · subst ne
                rw [ep] at b; cases b
                rw [hp] at hD; cases hD
              · refine nO ⟨j, u, ?_, b⟩
                rcases a with a | a <;> rw [set_other ne] at a
                · exact .inl a
                · exact .inr a
      · cases e
    · cases e
  · exact .inr (imp_lc hv ⟨G, cs, R, r, csf, e, k⟩)
end
section
variable {X : Cx} {elt tg : Expr} {ifs : List Expr} {scope : Scope} {own : List (Str × Nat)} {vs : List Nat} {pos spos py px : Pos} {g : MG} {tt : MT} {te : ME} {i : Nat} {x : Str}
theorem se_lcH (hc : X.calm = true) (hN : X.N.Nodup) (hx : X.N[i]? = some x) (hvis : Vis X.env.scope x) (ok : BlkOk X.N X.env.scope scope own) (hv : ∀ i ∈ vs, i ∈ own.map (·.2))
    (hg : ∀ (s : Shared) (H : Hp) (C : Addr) (cl : List (Str × Addr)) (fp : List Addr), SG (X.blk s H scope (compEnvC scope cl C X.env) fp) tg vs g) (ht : ∀ (s : Shared) (H : Hp) (C : Addr) (cl : List (Str × Addr)) (fp : List Addr), STs (X.blk s H scope (compEnvC scope cl C X.env) fp) ifs tt)
    (he : ∀ (s : Shared) (H : Hp) (C : Addr) (cl : List (Str × Addr)) (fp : List Addr), SE (X.blk s H scope (compEnvC scope cl C X.env) fp) elt te) (hd : (x == ("__debug__" : Str)) = false := by decide) (hcd : (x == ("__classdict__" : Str)) = false := by decide) (hs : ∀ z, foldedSetIterable (.Name x px) X.env z = pure z := by intro _; rfl) :
    SE X (.ListComp elt [⟨tg, .Name x px, ifs, 0⟩] scope pos) (mLcH i (own.map (·.2)) g tt te) :=
  PE.imp (PE.or (pe_lc hc hN (pi_list (pe_var hx hvis hd hcd)) ok hg ht he hs) (pe_lc hc hN (si_seq (sv i hx hvis hd hcd)) ok hg ht he hs)) fun _ _ _ h => imp_lcH hv h
theorem PS.or {X : Cx} {st : Stmt} {t t' : TS} (h : PS X st t) (h' : PS X st t') : PS X st (fun D σ H => t D σ H ∨ t' D σ H) := ⟨fun pins s σ H D I q => q.elim (h.run pins s σ H D I) (h'.run pins s σ H D I)⟩
theorem ss_setLcH {j : Nat} {y : Str} (hc : X.calm = true) (hN : X.N.Nodup) (hx : X.N[i]? = some x) (hvis : Vis X.env.scope x) (hy : X.N[j]? = some y) (hyl : X.env.scope.names.lookup y = some .local)
    (hsw : swapsWith (.ListComp elt [⟨tg, .Name x px, ifs, 0⟩] scope pos) (some (.Name y py)) spos.line X.env = pure true) (ok : BlkOk X.N X.env.scope scope own) (hv : ∀ i ∈ vs, i ∈ own.map (·.2))
    (hg : ∀ (s : Shared) (H : Hp) (C : Addr) (cl : List (Str × Addr)) (fp : List Addr), SG (X.blk s H scope (compEnvC scope cl C X.env) fp) tg vs g) (ht : ∀ (s : Shared) (H : Hp) (C : Addr) (cl : List (Str × Addr)) (fp : List Addr), STs (X.blk s H scope (compEnvC scope cl C X.env) fp) ifs tt)
    (he : ∀ (s : Shared) (H : Hp) (C : Addr) (cl : List (Str × Addr)) (fp : List Addr), SE (X.blk s H scope (compEnvC scope cl C X.env) fp) elt te) (hd : (x == ("__debug__" : Str)) = false := by decide) (hcd : (x == ("__classdict__" : Str)) = false := by decide) (hs : ∀ z, foldedSetIterable (.Name x px) X.env z = pure z := by intro _; rfl) :
    SS X (.Assign [.Name y py] (.ListComp elt [⟨tg, .Name x px, ifs, 0⟩] scope pos) spos) (sSet j (mLcH i (own.map (·.2)) g tt te)) :=
  PS.imp (PS.or (ps_setLc hc hN hy hyl hsw (pi_list (pe_var hx hvis hd hcd)) ok hg ht he hs) (ps_setLc hc hN hy hyl hsw (si_seq (sv i hx hvis hd hcd)) ok hg ht he hs)) fun D σ H h => by
    obtain h1 : tAsg (tS X.K (mLcH i (own.map (·.2)) g tt te)) (gName j) D σ H := imp_sset h
    exact imp_lcH hv h1
end
end TL
namespace TL
open PySem PySem.Spec L2
section
variable {X : Cx} {K : Fg} {D : Ends} {σ : L2.St} {H : Hp} {ma mb mc md : ME} {i j l m : Nat}
theorem imp_par3T (h : tSt K (sPar3 i j l ma mb mc) D σ H) : tAsg (tTup (tCons (tS K ma) (tCons (tS K mb) (tCons (tS K mc) tNil)))) (gTup K 3 (gCons (gName i) (gCons (gName j) (gCons (gName l) gNil)))) D σ H := by
  obtain ⟨G, cs, R, fl, cs', e, k⟩ := h
  simp only [sPar3] at e
  split at e
  · rename_i ra cs1 h1
    split at e
    · rename_i rb cs2 h2
      split at e
      · rename_i rc cs3 h3
        split at e
        · rename_i cs4 h4
          split at e
          · rename_i cs5 h5
            split at e
            · rename_i cs6 h6
              cases e
              refine imp_keep ⟨G, cs, R, ra, cs1, h1, fun G1 H1 v f1 R1 ok1 y1 => imp_keep ⟨G1, cs1, R1, rb, cs2, h2, fun G2 H2 w f2 R2 ok2 y2 => imp_keep ⟨G2, cs2, R2, rc, cs3, h3, fun G3 H3 z f3 R3 ok3 y3 => ?_⟩⟩⟩
              refine ⟨(by decide : 3 ≤ sizeLine), fun q nq => ?_⟩
              have x := Ext.own (o := .tup [v, w, z]) R3.le nq
              have fx := FrE.ext (σ := σ) (cs := cs3) x
              have Rx := R3.ext x
              have f123 := ((f1.trans f2).trans f3).trans fx
              have ok1' := ((ok1.mono f2).mono f3).mono fx
              have ok2' := (ok2.mono f3).mono fx
              have ok3' := ok3.mono fx
              obtain ⟨f4, R4⟩ := put1_ok f123.toFr Rx ok1' y1 h4
              have ok2a := RsOk.put1 Rx (dis_of ok1 y2) ok1' ok2' (cellR_of h5) h4
              have ok3a := RsOk.put1 Rx (dis_of (ok1.mono f2) y3) ok1' ok3' (cellR_of h6) h4
              obtain ⟨f5, R5⟩ := put1_ok f4 R4 ok2a (y2.up f1) h5
              have ok3b := RsOk.put1 R4 (dis_of ok2 y3) ok2a ok3a (cellR_of h6) h5
              obtain ⟨f6, R6⟩ := put1_ok f5 R5 ok3b (y3.up (f1.trans f2)) h6
              exact ⟨q, [v, w, z], rfl, .inl (.inl upd_same), rfl, v, [w, z], rfl, w, [z], rfl, z, [], rfl, rfl, k _ _ _ f6 R6⟩
            · cases e
          · cases e
        · cases e
      · cases e
    · cases e
  · cases e
def sPar4 (i j l m : Nat) (ma mb mc md : ME) : MS := fun cs => match mKeep ma cs with
  | some (ra, cs1) => match mKeep mb cs1 with
    | some (rb, cs2) => match mKeep mc cs2 with
      | some (rc, cs3) => match mKeep md cs3 with
        | some (rd, cs4) => match put1 i ra cs4 with
          | some cs5 => match put1 j rb cs5 with
            | some cs6 => match put1 l rc cs6 with
              | some cs7 => match put1 m rd cs7 with
                | some cs8 => some (.nx, cs8)
                | none => none
              | none => none
            | none => none
          | none => none
        | none => none
      | none => none
    | none => none
  | none => none
theorem imp_par4T (h : tSt K (sPar4 i j l m ma mb mc md) D σ H) : tAsg (tTup (tCons (tS K ma) (tCons (tS K mb) (tCons (tS K mc) (tCons (tS K md) tNil))))) (gTup K 4 (gCons (gName i) (gCons (gName j) (gCons (gName l) (gCons (gName m) gNil))))) D σ H := by
  obtain ⟨G, cs, R, fl, cs', e, k⟩ := h
  simp only [sPar4] at e
  split at e
  · rename_i ra cs1 h1
    split at e
    · rename_i rb cs2 h2
      split at e
      · rename_i rc cs3 h3
        split at e
        · rename_i rd cs4 h4
          split at e
          · rename_i cs5 h5
            split at e
            · rename_i cs6 h6
              split at e
              · rename_i cs7 h7
                split at e
                · rename_i cs8 h8
                  cases e
                  refine imp_keep ⟨G, cs, R, ra, cs1, h1, fun G1 H1 v f1 R1 ok1 y1 => imp_keep ⟨G1, cs1, R1, rb, cs2, h2, fun G2 H2 w f2 R2 ok2 y2 => imp_keep ⟨G2, cs2, R2, rc, cs3, h3, fun G3 H3 z f3 R3 ok3 y3 => imp_keep ⟨G3, cs3, R3, rd, cs4, h4, fun G4 H4 u f4 R4 ok4 y4 => ?_⟩⟩⟩⟩
                  refine ⟨(by decide : 4 ≤ sizeLine), fun q nq => ?_⟩
                  have x := Ext.own (o := .tup [v, w, z, u]) R4.le nq
                  have fx := FrE.ext (σ := σ) (cs := cs4) x
                  have Rx := R4.ext x
                  have fa := (((f1.trans f2).trans f3).trans f4).trans fx
                  have ok1' := (((ok1.mono f2).mono f3).mono f4).mono fx
                  have ok2' := ((ok2.mono f3).mono f4).mono fx
                  have ok3' := (ok3.mono f4).mono fx
                  have ok4' := ok4.mono fx
                  obtain ⟨f5, R5⟩ := put1_ok fa.toFr Rx ok1' y1 h5
                  have ok2a := RsOk.put1 Rx (dis_of ok1 y2) ok1' ok2' (cellR_of h6) h5
                  have ok3a := RsOk.put1 Rx (dis_of (ok1.mono f2) y3) ok1' ok3' (cellR_of h7) h5
                  have ok4a := RsOk.put1 Rx (dis_of ((ok1.mono f2).mono f3) y4) ok1' ok4' (cellR_of h8) h5
                  obtain ⟨f6, R6⟩ := put1_ok f5 R5 ok2a (y2.up f1) h6
                  have ok3b := RsOk.put1 R5 (dis_of ok2 y3) ok2a ok3a (cellR_of h7) h6
                  have ok4b := RsOk.put1 R5 (dis_of (ok2.mono f3) y4) ok2a ok4a (cellR_of h8) h6
                  obtain ⟨f7, R7⟩ := put1_ok f6 R6 ok3b (y3.up (f1.trans f2)) h7
                  have ok4c := RsOk.put1 R6 (dis_of ok3 y4) ok3b ok4b (cellR_of h8) h7
                  obtain ⟨f8, R8⟩ := put1_ok f7 R7 ok4c (y4.up ((f1.trans f2).trans f3)) h8
                  exact ⟨q, [v, w, z, u], rfl, .inl (.inl upd_same), rfl, v, [w, z, u], rfl, w, [z, u], rfl, z, [u], rfl, u, [], rfl, rfl, k _ _ _ f8 R8⟩
                · cases e
              · cases e
            · cases e
          · cases e
        · cases e
      · cases e
    · cases e
  · cases e
variable {x y z w : Str} {a b c d : Expr} {px py pz pw pt pos : Pos} {kt k2 : Nat} {pt2 : Pos}
theorem ss_par3T (hc : X.calm = true) (hN : X.N.Nodup) (hi : X.N[i]? = some x) (hj : X.N[j]? = some y) (hl : X.N[l]? = some z) (hx : Loc X.env.scope x) (hy : Loc X.env.scope y) (hz : Loc X.env.scope z) (ha : SE X a ma) (hb : SE X b mb) (hcc : SE X c mc)
    (f1 : X.fn x = true ∨ X.env.scope.names.lookup x = some .local := by first | exact .inl rfl | exact .inr rfl) (f2 : X.fn y = true ∨ X.env.scope.names.lookup y = some .local := by first | exact .inl rfl | exact .inr rfl) (f3 : X.fn z = true ∨ X.env.scope.names.lookup z = some .local := by first | exact .inl rfl | exact .inr rfl)
    (s1 : starEach [a, b, c] X.env = (false, eval a X.env) :: starEach [b, c] X.env := by rfl) (s2 : starEach [b, c] X.env = (false, eval b X.env) :: starEach [c] X.env := by rfl) (s3 : starEach [c] X.env = (false, eval c X.env) :: starEach [] X.env := by rfl)
    (hs : swapsWithSole [.Tuple [.Name x px, .Name y py, .Name z pz] kt pt] (.Tuple [a, b, c] k2 pt2) pos.line X.env = pure false := by rfl) (hw : swappedStores [.Tuple [.Name x px, .Name y py, .Name z pz] kt pt] (.Tuple [a, b, c] k2 pt2) X.env = pure none := by rfl)
    (h1 : (assignEach [.Tuple [.Name x px, .Name y py, .Name z pz] kt pt] X.env).map (·.2) = [assign (.Tuple [.Name x px, .Name y py, .Name z pz] kt pt) X.env] := by rfl) :
    SS X (.Assign [.Tuple [.Name x px, .Name y py, .Name z pz] kt pt] (.Tuple [a, b, c] k2 pt2) pos) (sPar3 i j l ma mb mc) :=
  PS.imp (ps_asg (pe_tup (pa_cons ha (pa_cons hb (pa_cons hcc pa_nil s3) s2) s1)) (pg_tup (n := 3) hc (pgs_cons (pg_name hN hi hx f1) (pgs_cons (pg_name hN hj hy f2) (pgs_cons (pg_name hN hl hz f3) pgs_nil)))) hs hw h1) fun _ _ _ h => imp_par3T h
theorem ss_par4T (hc : X.calm = true) (hN : X.N.Nodup) (hi : X.N[i]? = some x) (hj : X.N[j]? = some y) (hl : X.N[l]? = some z) (hm : X.N[m]? = some w) (hx : Loc X.env.scope x) (hy : Loc X.env.scope y) (hz : Loc X.env.scope z) (hw' : Loc X.env.scope w) (ha : SE X a ma) (hb : SE X b mb) (hcc : SE X c mc) (hd : SE X d md)
    (f1 : X.fn x = true ∨ X.env.scope.names.lookup x = some .local := by first | exact .inl rfl | exact .inr rfl) (f2 : X.fn y = true ∨ X.env.scope.names.lookup y = some .local := by first | exact .inl rfl | exact .inr rfl) (f3 : X.fn z = true ∨ X.env.scope.names.lookup z = some .local := by first | exact .inl rfl | exact .inr rfl) (f4 : X.fn w = true ∨ X.env.scope.names.lookup w = some .local := by first | exact .inl rfl | exact .inr rfl)
    (s1 : starEach [a, b, c, d] X.env = (false, eval a X.env) :: starEach [b, c, d] X.env := by rfl) (s2 : starEach [b, c, d] X.env = (false, eval b X.env) :: starEach [c, d] X.env := by rfl) (s3 : starEach [c, d] X.env = (false, eval c X.env) :: starEach [d] X.env := by rfl) (s4 : starEach [d] X.env = (false, eval d X.env) :: starEach [] X.env := by rfl)
    (hs : swapsWithSole [.Tuple [.Name x px, .Name y py, .Name z pz, .Name w pw] kt pt] (.Tuple [a, b, c, d] k2 pt2) pos.line X.env = pure false := by rfl) (hw : swappedStores [.Tuple [.Name x px, .Name y py, .Name z pz, .Name w pw] kt pt] (.Tuple [a, b, c, d] k2 pt2) X.env = pure none := by rfl)
    (h1 : (assignEach [.Tuple [.Name x px, .Name y py, .Name z pz, .Name w pw] kt pt] X.env).map (·.2) = [assign (.Tuple [.Name x px, .Name y py, .Name z pz, .Name w pw] kt pt) X.env] := by rfl) :
    SS X (.Assign [.Tuple [.Name x px, .Name y py, .Name z pz, .Name w pw] kt pt] (.Tuple [a, b, c, d] k2 pt2) pos) (sPar4 i j l m ma mb mc md) :=
  PS.imp (ps_asg (pe_tup (pa_cons ha (pa_cons hb (pa_cons hcc (pa_cons hd pa_nil s4) s3) s2) s1)) (pg_tup (n := 4) hc (pgs_cons (pg_name hN hi hx f1) (pgs_cons (pg_name hN hj hy f2) (pgs_cons (pg_name hN hl hz f3) (pgs_cons (pg_name hN hm hw' f4) pgs_nil))))) hs hw h1) fun _ _ _ h => imp_par4T h
end
end TL
namespace TL
open PySem PySem.Spec L2

/-! ### a dict is walked: it is locked in H meanwhile -/
section
variable {K : Fg} {σ σ' : L2.St} {G H G' H' : Hp} {cs cs' : Cs} {d : Addr} {u : HO} {od : Obj} {D : Ends} {fl : Fl}
/-- the thing at d is a dict of these pairs -/
inductive DOb (K : Fg) (G : Hp) (ts : List (T × T)) : HO → Prop
  | k {kk : List (Key × V)} : RelK K G ts kk → DOb K G ts (.dK kk)
  | t {kk : List (List Key × V)} : RelT K G ts kk → ts ≠ [] → DOb K G ts (.dT kk)
theorem DOb.mono {ts : List (T × T)} (l : Le G G') : DOb K G ts u → DOb K G' ts u
  | .k r => .k (RelK.mono l r)
  | .t r n => .t (RelT.mono l r) n
theorem DOb.plain {ts : List (T × T)} : DOb K G ts u → Plain u
  | .k _ => trivial
  | .t _ _ => trivial
theorem DOb.mut {ts : List (T × T)} : DOb K G ts u → Mut (some u)
  | .k _ => trivial
  | .t _ _ => trivial
theorem DOb.nt {ts : List (T × T)} : DOb K G ts u → ∀ vs, u ≠ .tup vs
  | .k _, _, e => nomatch e
  | .t _ _, _, e => nomatch e
theorem DOb.nl {ts : List (T × T)} : DOb K G ts u → ∀ vs, u ≠ .lst vs
  | .k _, _, e => nomatch e
  | .t _ _, _, e => nomatch e
theorem rel_dict {ts : List (T × T)} {v : V} (h : Rel K G (.dict ts) v) : ∃ a u, v = .ref a ∧ Rd G a u ∧ DOb K G ts u := by
  cases h with
  | dk h r => exact ⟨_, _, rfl, h, .k r⟩
  | dt h r n => exact ⟨_, _, rfl, h, .t r n⟩
theorem own_dict {ts : List (T × T)} {p : Addr} (h : Own K G H (.dict ts) p) : ∃ u, H p = some u ∧ DOb K G ts u := by
  cases h with
  | dk h r => exact ⟨_, h, .k r⟩
  | dt h r n => exact ⟨_, h, .t r n⟩
def itD (d : Addr) (od : Obj) : HO → It
  | .dT kk => Itkt d od kk
  | .dK kk => Itk d od kk
  | _ => Itk d od []
theorem ikeys_of {i : Nat} {R : It → Hp → Prop} {ts : List (T × T)} (o : DOb K G ts u) (e : σ[i]? = some (some (V.ref d))) (h : H d = some (.frz od u)) (r : R (itD d od u) H) : iKeys (tVar i) σ H R := by
  refine ⟨V.ref d, e, d, od, rfl, ?_⟩
  cases o with
  | k _ => exact .inl ⟨_, h, r⟩
  | t _ _ => exact .inr ⟨_, h, r⟩
def keysT (kvs : List (T × T)) : List T := kvs.map (·.1)
theorem relK_key : ∀ {ts : List (T × T)} {kk : List (Key × V)}, RelK K G ts kk → ∀ {i : Nat} {t : T}, (keysT ts)[i]? = some t → ∃ k v, kk[i]? = some (k, v) ∧ Rel K G t (kV k)
  | _, _, .nil, i, t, h => by simp [keysT] at h
  | _, _, @RelK.cons _ _ a t' k' v' ts vs e r rest, 0, t, h => by
    simp [keysT] at h
    subst h
    refine ⟨k', v', rfl, ?_⟩
    cases a <;> cases e
    · exact .int _
    · exact .str _
  | _, _, .cons _ _ rest, i + 1, t, h => by
    obtain ⟨k, v, a, b⟩ := relK_key rest (i := i) (t := t) (by simpa [keysT] using h)
    exact ⟨k, v, by simpa using a, b⟩
theorem rels_keys : ∀ {ts : List T} {ks : List Key}, ksOf ts = some ks → Rels K G ts (ks.map kV)
  | [], ks, h => by cases h; exact .nil
  | t :: ts, ks, h => by
    simp only [ksOf] at h
    split at h
    · rename_i k hk
      split at h
      · rename_i ks' hks
        cases h
        refine .cons ?_ (rels_keys hks)
        cases t <;> cases hk
        · exact .int _
        · exact .str _
      · cases h
    · cases h
theorem relT_key : ∀ {ts : List (T × T)} {kk : List (List Key × V)}, RelT K G ts kk → ∀ {i : Nat} {t : T}, (keysT ts)[i]? = some t → ∃ k v, kk[i]? = some (k, v) ∧ ktOf t = some k
  | _, _, .nil, i, t, h => by simp [keysT] at h
  | _, _, @RelT.cons _ _ a t' k' v' ts vs e r rest, 0, t, h => by
    simp [keysT] at h
    subst h
    exact ⟨k', v', rfl, e⟩
  | _, _, .cons _ _ rest, i + 1, t, h => by
    obtain ⟨k, v, a, b⟩ := relT_key rest (i := i) (t := t) (by simpa [keysT] using h)
    exact ⟨k, v, by simpa using a, b⟩
/-- a tuple of H is laid in G -/
theorem tup_in (l : Le G H) {q : Addr} {vs : List V} (h : H q = some (.tup vs)) : Ext G H (upd G q (.tup vs)) H := by
  have rq : ∀ w, Plain w → Rd G q w → w = .tup vs := fun w pw r => by
    rcases l.rd q w pw r with r | ⟨_, r⟩ <;> rw [h] at r <;> cases r
    rfl
  refine ⟨⟨fun a w pw r => ?_, fun a n => ?_, fun a ws e => ?_⟩, fun _ _ e => e, ⟨fun a w pw r => ?_, fun a n => ?_, fun a ws e => ?_⟩, fun p hp => ?_⟩
  · by_cases e : a = q
    · subst e; rw [rq w pw r]; exact .inl upd_same
    · rcases r with r | ⟨o, r⟩
      · exact .inl (by rw [upd_ne e]; exact r)
      · exact .inr ⟨o, by rw [upd_ne e]; exact r⟩
  · by_cases e : a = q
    · subst e; rw [upd_same] at n; cases n
    · rw [upd_ne e] at n; exact n
  · by_cases e2 : a = q
    · subst e2
      have := rq (.tup ws) trivial (.inl e)
      cases this
      exact upd_same
    · rw [upd_ne e2]; exact e
  · by_cases e : a = q
    · subst e
      rcases r with r | ⟨_, r⟩ <;> rw [upd_same] at r <;> cases r
      exact .inl h
    · refine l.rd a w pw ?_
      rcases r with r | ⟨o, r⟩ <;> rw [upd_ne e] at r
      · exact .inl r
      · exact .inr ⟨o, r⟩
  · by_cases e : a = q
    · subst e; rw [h] at n; cases n
    · rw [upd_ne e]; exact l.dom a n
  · by_cases e2 : a = q
    · subst e2; rw [upd_same] at e; cases e; exact h
    · rw [upd_ne e2] at e; exact l.tp a ws e
  · have ne : p ≠ q := by
      rintro rfl
      obtain ⟨o, e, z⟩ := hp
      rw [h] at e; cases e
      exact z _ rfl
    exact upd_ne ne
theorem turnsD {ts : List (T × T)} (o : DOb K G ts u) (lg : Le G G') (l : Le G' H') (h : H' d = some (.frz od u)) :
    (∀ i t, (keysT ts)[i]? = some t → (itD d od u).go i H' ∧ ∀ x H2, (itD d od u).yld i H' x H2 → ∃ G2, Ext G' H' G2 H2 ∧ Rel K G2 t x) ∧ ∀ i, (keysT ts).length ≤ i → (itD d od u).stop i H' := by
  cases o with
  | k r =>
    refine ⟨fun i t e => ?_, fun i hi => ?_⟩
    · obtain ⟨k, v, a, b⟩ := relK_key r e
      refine ⟨⟨h, lt_of_get a⟩, fun x H2 ⟨e2, k', v', ek, ex⟩ => ?_⟩
      subst e2
      rw [a] at ek; cases ek
      subst ex
      exact ⟨G', .refl l, b.mono lg⟩
    · refine ⟨h, ?_⟩
      rw [r.length]
      simpa [keysT] using hi
  | t r _ =>
    refine ⟨fun i t e => ?_, fun i hi => ?_⟩
    · obtain ⟨k, v, a, b⟩ := relT_key r e
      refine ⟨⟨h, lt_of_get a⟩, fun x H2 ⟨e2, k', v', q, ek, ex, hq⟩ => ?_⟩
      subst e2
      rw [a] at ek; cases ek
      subst ex
      have X := tup_in l hq
      refine ⟨_, X, ?_⟩
      cases t with
      | tuple ts' => exact .tup upd_same (rels_keys b)
      | _ => cases b
    · refine ⟨h, ?_⟩
      rw [r.length]
      simpa [keysT] using hi
theorem Le.lockH (l : Le G H) (h : H d = some u) (nt : ∀ vs, u ≠ .tup vs) (pl : Plain u) : Le G (upd H d (.frz od u)) := by
  refine ⟨fun a w pw r => ?_, fun a n => ?_, fun a vs q => ?_⟩
  · have r := l.rd a w pw r
    by_cases e : a = d
    · subst e
      rcases r with r | ⟨_, r⟩ <;> rw [h] at r <;> cases r
      · exact .inr ⟨od, upd_same⟩
      · exact pl.elim
    · rcases r with r | ⟨o, r⟩
      · exact .inl (by rw [upd_ne e]; exact r)
      · exact .inr ⟨o, by rw [upd_ne e]; exact r⟩
  · by_cases e : a = d
    · subst e; rw [upd_same] at n; cases n
    · rw [upd_ne e] at n; exact l.dom a n
  · have q := l.tp a vs q
    have e : a ≠ d := by rintro rfl; rw [h] at q; exact nt vs (Option.some.inj q)
    rw [upd_ne e]; exact q
theorem Le.unlockH (l : Le G H) (h : H d = some (.frz od u)) : Le G (upd H d u) := by
  refine ⟨fun a w pw r => ?_, fun a n => ?_, fun a vs q => ?_⟩
  · have r := l.rd a w pw r
    by_cases e : a = d
    · subst e
      rcases r with r | ⟨_, r⟩ <;> rw [h] at r <;> cases r
      · exact pw.elim
      · exact .inl upd_same
    · rcases r with r | ⟨o, r⟩
      · exact .inl (by rw [upd_ne e]; exact r)
      · exact .inr ⟨o, by rw [upd_ne e]; exact r⟩
  · by_cases e : a = d
    · subst e; rw [upd_same] at n; cases n
    · rw [upd_ne e] at n; exact l.dom a n
  · have q := l.tp a vs q
    have e : a ≠ d := by rintro rfl; rw [h] at q; cases q
    rw [upd_ne e]; exact q
theorem SR.lockH (R : SR K G H cs σ) (g : G d ≠ none) (h : H d = some u) (nt : ∀ vs, u ≠ .tup vs) (pl : Plain u) : SR K G (upd H d (.frz od u)) cs σ := by
  refine ⟨R.le.lockH h nt pl, R.len, R.fz, fun i t a => ?_, R.apart⟩
  obtain ⟨p, x, y, z⟩ := R.ow i t a
  have ne : p ≠ d := by rintro rfl; exact g y
  exact ⟨p, x, y, z.mono (.refl _) (upd_ne ne)⟩
theorem SR.unlockH (R : SR K G H cs σ) (g : G d ≠ none) (h : H d = some (.frz od u)) : SR K G (upd H d u) cs σ := by
  refine ⟨R.le.unlockH h, R.len, R.fz, fun i t a => ?_, R.apart⟩
  obtain ⟨p, x, y, z⟩ := R.ow i t a
  have ne : p ≠ d := by rintro rfl; exact g y
  exact ⟨p, x, y, z.mono (.refl _) (upd_ne ne)⟩
theorem not_own (R : SR K G H cs σ) (g : G d ≠ none) : ¬ OwnAt cs σ d := fun z => g (R.own_ne z).2
theorem Fr.lockedH (R : SR K G H cs σ) (g : G d ≠ none) (f : Fr σ G (upd H d (.frz od u)) cs σ' G' H' cs') : H' d = some (.frz od u) ∧ G' d ≠ none :=
  ⟨f.keep d _ upd_same (not_own R g), fun n => g (f.g.dom d n)⟩
theorem Fr.unlockH (R : SR K G H cs σ) (g : G d ≠ none) (h : H d = some u) (f : Fr σ G (upd H d (.frz od u)) cs σ' G' H' cs') : Fr σ G H cs σ' G' (upd H' d u) cs' := by
  refine ⟨f.g, fun p o a b => ?_, fun p a b c => ?_, fun p a => ?_, fun p n => ?_, f.bo, f.bo'⟩
  · by_cases ne : p = d
    · subst ne; rw [h] at a; cases a; exact upd_same
    · rw [upd_ne ne]; exact f.keep p o (by rw [upd_ne ne]; exact a) b
  · have ne : p ≠ d := by rintro rfl; exact g b
    exact f.gfr p (by rw [upd_ne ne]; exact a) b c
  · rcases f.own p a with z | z
    · exact .inl z
    · refine .inr ?_
      by_cases ne : p = d
      · subst ne; rw [upd_same] at z; cases z
      · rw [upd_ne ne] at z; exact z
  · by_cases ne : p = d
    · subst ne; rw [upd_same]; simp
    · rw [upd_ne ne]; exact f.hmo p (by rw [upd_ne ne]; exact n)
/-- what is wanted while the dict is locked -/
def lockD (D : Ends) (d : Addr) (od : Obj) (u : HO) : Ends := ⟨fun σ' H' => H' d = some (.frz od u) ∧ D.nx σ' (upd H' d u), fun v H' => H' d = some (.frz od u) ∧ D.rt v (upd H' d u), fun σ' H' => H' d = some (.frz od u) ∧ D.bk σ' (upd H' d u), fun σ' H' => H' d = some (.frz od u) ∧ D.ct σ' (upd H' d u)⟩
theorem After.lockH (R : SR K G H cs σ) (g : G d ≠ none) (h : H d = some u) (a : After K D σ G H cs cs' fl) : After K (lockD D d od u) σ G (upd H d (.frz od u)) cs cs' fl := by
  cases fl with
  | nx => exact fun σ1 G1 H1 f R1 => ⟨(Fr.lockedH R g f).1, a σ1 G1 _ (Fr.unlockH R g h f) (R1.unlockH (Fr.lockedH R g f).2 (Fr.lockedH R g f).1)⟩
  | bk => exact fun σ1 G1 H1 f R1 => ⟨(Fr.lockedH R g f).1, a σ1 G1 _ (Fr.unlockH R g h f) (R1.unlockH (Fr.lockedH R g f).2 (Fr.lockedH R g f).1)⟩
  | ct => exact fun σ1 G1 H1 f R1 => ⟨(Fr.lockedH R g f).1, a σ1 G1 _ (Fr.unlockH R g h f) (R1.unlockH (Fr.lockedH R g f).2 (Fr.lockedH R g f).1)⟩
  | rt o =>
      intro σ1 G1 H1 v f R1 k
      obtain ⟨hd, gd⟩ := Fr.lockedH R g f
      refine ⟨hd, a σ1 G1 _ v (Fr.unlockH R g h f) (R1.unlockH gd hd) ?_⟩
      cases o with
      | fz t => exact k
      | nw t =>
        obtain ⟨p, ep, n, w, b, y⟩ := k
        have ne : p ≠ d := by rintro rfl; exact gd n
        refine ⟨p, ep, n, w.mono (.refl _) (upd_ne ne), b, ?_⟩
        rcases y with y | y
        · exact .inl y
        · exact .inr (by rw [upd_ne ne] at y; exact y)
end

/-! ### comprehensions over the keys of a dict that a name holds -/
mutual
def noDict : T → Bool
  | .list ts => noDicts ts
  | .tuple ts => noDicts ts
  | .int _ => true
  | .str _ => true
  | .bool _ => true
  | .none => true
  | _ => false
def noDicts : List T → Bool
  | [] => true
  | t :: ts => noDict t && noDicts ts
end
def maskC (cs : Cs) : Cs := cs.map fun c => match c with
  | .fz t => .fz t
  | _ => .un
def mLcN (hid : Bool) (i : Nat) (own : List Nat) (g : MG) (tt : MT) (te : ME) : ME := fun cs => match cs[i]? with
  | some (.fz (.dict kvs)) => if kvs.length ≤ sizeLine then match mLcL own g tt te (keysT kvs) (wipeC cs own) with
      | some (ys, c2) => some (.nw (.list ys), restC cs own c2)
      | none => none
    else none
  | some (.ow (.dict kvs)) => if kvs.length ≤ sizeLine then match mLcL own g tt te (keysT kvs) (wipeC ((maskC cs).set i (.fz (.dict kvs))) own) with
      | some (ys, _) => if noDicts ys then some (.nw (.list ys), cs) else none
      | none => none
    else none
  | _ => if hid then mLcH i own g tt te cs else mLc own (iSeq (mV i)) g tt te cs
section
variable {X : Cx} {K : Fg} {σ : L2.St} {G H : Hp} {cs : Cs} {Q : VK} {own vs : List Nat} {mi : MI} {g : MG} {tt : MT} {te : ME} {i : Nat}
theorem lcD_lock {G0 : Hp} {cs0 c2 : Cs} {kvs : List (T × T)} {tot : List T} {a : Addr} {u : HO} {od : Obj} (hv : ∀ i ∈ vs, i ∈ own) (hlen : kvs.length ≤ sizeLine) (R : SR K G0 H cs0 σ) (g0 : G0 a ≠ none) (o : DOb K G0 kvs u) (h : H a = some (.frz od u)) (ea : σ[i]? = some (some (V.ref a)))
    (h2 : mLcL own g tt te (keysT kvs) (wipeC cs0 own) = some (tot, c2))
    (k : ∀ G' H' v, FrE σ G0 H cs0 G' H' (restC cs0 own c2) → SR K G' H' (restC cs0 own c2) σ → RsOk K G' H' (restC cs0 own c2) σ (.nw (.list tot)) v → Young H (.nw (.list tot)) v → Q v H') :
    tLc (iKeys (tVar i)) (gS K vs g) (tT K tt) (tS K te) own σ H Q := by
  refine ikeys_of o ea h (lc_tail hv (by simpa [keysT] using hlen) R (fun G' H' cs' f' l' => ?_) h2 k)
  have now : ¬ OwnAt (wipeC cs0 own) (wipe σ own) a := fun z => by
    obtain ⟨j, u, _, x, y⟩ := ownw z
    exact not_own R g0 ⟨j, u, x, y⟩
  exact turnsD o f'.g l' (f'.keep a _ h now)
theorem RsOk.unlockH {G' H' : Hp} {c : Cs} {t : T} {v : V} {a : Addr} {u : HO} (g : G' a ≠ none) (h : RsOk K G' H' c σ (.nw t) v) : RsOk K G' (upd H' a u) c σ (.nw t) v := by
  obtain ⟨D, rfl, gD, oD, nO⟩ := h
  have ne : D ≠ a := by rintro rfl; exact g gD
  exact ⟨D, rfl, gD, oD.mono (.refl _) (upd_ne ne), nO⟩
theorem lcD_fz {kvs : List (T × T)} {tot : List T} {c2 : Cs} (hv : ∀ i ∈ vs, i ∈ own) (hlen : kvs.length ≤ sizeLine) (R : SR K G H cs σ) (hc : cs[i]? = some (.fz (.dict kvs)))
    (h2 : mLcL own g tt te (keysT kvs) (wipeC cs own) = some (tot, c2))
    (k : ∀ G' H' v, FrE σ G H cs G' H' (restC cs own c2) → SR K G' H' (restC cs own c2) σ → RsOk K G' H' (restC cs own c2) σ (.nw (.list tot)) v → Young H (.nw (.list tot)) v → Q v H') :
    tLockE (tLc (iKeys (tVar i)) (gS K vs g) (tT K tt) (tS K te) own) σ H Q ∨ tLc (iKeys (tVar i)) (gS K vs g) (tT K tt) (tS K te) own σ H Q := by
  obtain ⟨v, ev, rel⟩ := R.fz i _ hc
  obtain ⟨a, u, rfl, rd, o⟩ := rel_dict rel
  have g0 : G a ≠ none := by rcases rd with z | ⟨_, z⟩ <;> rw [z] <;> simp
  rcases R.le.rd a u o.plain rd with h | ⟨od, h⟩
  · refine .inl ⟨a, u, h, o.mut, fun od => lcD_lock hv hlen (R.lockH g0 h o.nt o.plain) g0 o upd_same ev h2 fun G' H' v f R' ok y => ?_⟩
    obtain ⟨hd, gd⟩ := Fr.lockedH R g0 f.toFr
    refine ⟨hd, k G' _ v ⟨Fr.unlockH R g0 h f.toFr, f.fzk, f.live, f.back⟩ (R'.unlockH gd hd) (ok.unlockH gd) fun q eq => ?_⟩
    have z := y q eq
    by_cases ne : q = a
    · subst ne; rw [upd_same] at z; cases z
    · rw [upd_ne ne] at z; exact z
  · exact .inr (lcD_lock hv hlen R g0 o h ev h2 k)
theorem maskC_get {j : Nat} : (maskC cs)[j]? = cs[j]?.map fun c => match c with
  | .fz t => .fz t
  | _ => .un := by unfold maskC; rw [List.getElem?_map]
def cutH (G : Hp) (p : Addr) : Hp := fun q => if q = p then none else G q
theorem cutH_ne {G : Hp} {p q : Addr} (h : q ≠ p) : cutH G p q = G q := if_neg h
theorem cutH_same {G : Hp} {p : Addr} : cutH G p p = none := if_pos rfl
theorem off_rd {G' : Hp} {p a : Addr} {vs : List V} (hl : ∀ vs, ¬ Rd G' p (.lst vs)) (h : Rd G' a (.lst vs)) : Rd (cutH G' p) a (.lst vs) := by
  have ne : a ≠ p := by rintro rfl; exact hl _ h
  rcases h with h | ⟨o, h⟩
  · exact .inl (by rw [cutH_ne ne]; exact h)
  · exact .inr ⟨o, by rw [cutH_ne ne]; exact h⟩
theorem off_tp {G' : Hp} {p a : Addr} {vs : List V} (ht : ∀ vs, G' p ≠ some (.tup vs)) (h : G' a = some (.tup vs)) : cutH G' p a = some (.tup vs) := by
  have ne : a ≠ p := by rintro rfl; exact ht _ h
  rw [cutH_ne ne]; exact h
mutual
theorem Rel.off {G' : Hp} {p : Addr} (hl : ∀ vs, ¬ Rd G' p (.lst vs)) (ht : ∀ vs, G' p ≠ some (.tup vs)) : ∀ {t : T} {v : V}, noDict t = true → Rel K G' t v → Rel K (cutH G' p) t v
  | _, _, _, .non => .non
  | _, _, _, .bl b => .bl b
  | _, _, _, .int i => .int i
  | _, _, _, .str x => .str x
  | _, _, n, .lst h r => .lst (off_rd hl h) (Rels.off hl ht n r)
  | _, _, n, .tup h r => .tup (off_tp ht h) (Rels.off hl ht n r)
  | _, _, n, .dk _ _ => by simp [noDict] at n
  | _, _, n, .dt _ _ _ => by simp [noDict] at n
theorem Rels.off {G' : Hp} {p : Addr} (hl : ∀ vs, ¬ Rd G' p (.lst vs)) (ht : ∀ vs, G' p ≠ some (.tup vs)) : ∀ {t : List T} {v : List V}, noDicts t = true → Rels K G' t v → Rels K (cutH G' p) t v
  | _, _, _, .nil => .nil
  | _, _, n, .cons h r => by
    simp [noDicts] at n
    exact .cons (Rel.off hl ht n.1 h) (Rels.off hl ht n.2 r)
end
theorem lcD_ow {kvs : List (T × T)} {tot : List T} {c2 : Cs} (hv : ∀ i ∈ vs, i ∈ own) (hlen : kvs.length ≤ sizeLine) (R : SR K G H cs σ) (hc : cs[i]? = some (.ow (.dict kvs)))
    (h2 : mLcL own g tt te (keysT kvs) (wipeC ((maskC cs).set i (.fz (.dict kvs))) own) = some (tot, c2)) (nd : noDicts tot = true)
    (k : ∀ G' H' v, FrE σ G H cs G' H' cs → SR K G' H' cs σ → RsOk K G' H' cs σ (.nw (.list tot)) v → Young H (.nw (.list tot)) v → Q v H') :
    tLockE (tLc (iKeys (tVar i)) (gS K vs g) (tT K tt) (tS K te) own) σ H Q := by
  obtain ⟨p, ev, gp, ow⟩ := R.ow i _ (.inl hc)
  obtain ⟨u, hp, o⟩ := own_dict ow
  have hi : i < cs.length := lt_of_get hc
  refine ⟨p, u, hp, o.mut, fun od => ?_⟩
  have lg : Le G (upd G p u) := .upd_new gp
  -- the cells meanwhile
  have oc : ∀ j t, ¬ OwC ((maskC cs).set i (.fz (.dict kvs))) j t := fun j t z => by
    by_cases ne : j = i
    · subst ne
      rcases z with z | z <;> rw [set_self (by unfold maskC; rw [List.length_map]; exact hi)] at z <;> cases z
    · rcases z with z | z <;> rw [set_other ne, maskC_get] at z <;> cases e : cs[j]? <;> rw [e] at z <;> first | cases z | (rename_i c; cases c <;> cases z)
  have R0 : SR K (upd G p u) (upd H p (.frz od u)) ((maskC cs).set i (.fz (.dict kvs))) σ := by
    refine ⟨(R.le.upd_le hp o.plain).lockH hp o.nt o.plain, by rw [List.length_set]; unfold maskC; rw [List.length_map]; exact R.len, fun j t e => ?_, fun j t e => (oc j t e).elim, fun j _ t _ _ e => (oc j t e).elim⟩
    by_cases ne : j = i
    · subst ne
      rw [set_self (by unfold maskC; rw [List.length_map]; exact hi)] at e
      cases e
      exact ⟨_, ev, ow.rel lg (by rw [upd_same, hp])⟩
    · rw [set_other ne, maskC_get] at e
      cases e2 : cs[j]? with
      | none => rw [e2] at e; cases e
      | some c =>
        rw [e2] at e
        cases c with
        | fz t' =>
          cases e
          obtain ⟨v, x, y⟩ := R.fz j _ e2
          exact ⟨v, x, y.mono lg⟩
        | _ => cases e
  have no0 : ∀ q, ¬ OwnAt ((maskC cs).set i (.fz (.dict kvs))) σ q := fun q ⟨j, t, a, _⟩ => oc j t a
  have g0 : (upd G p u) p ≠ none := by rw [upd_same]; simp
  refine lcD_lock hv hlen R0 g0 (o.mono lg) upd_same ev h2 fun G' H' v f R' ok y => ?_
  have keep : ∀ q ob, q ≠ p → H q = some ob → H' q = some ob := fun q ob ne e => f.keep q ob (by rw [upd_ne ne]; exact e) (no0 q)
  have hp' : H' p = some (.frz od u) := f.keep p _ upd_same (no0 p)
  have gfr : ∀ q, q ≠ p → NoT (H q) → G q = none → G' q = none := fun q ne a b => f.gfr q (by rw [upd_ne ne]; exact a) (by rw [upd_ne ne]; exact b) (no0 q)
  have gne : ∀ {q : Addr}, q ≠ p → (cutH G' p) q = G' q := fun {q} ne => cutH_ne ne
  have gp' : (cutH G' p) p = none := cutH_same
  have rp : ∀ w, Plain w → Rd G' p w → w = u := fun w pw r => by
    rcases R'.le.rd p w pw r with r | ⟨_, r⟩ <;> rw [hp'] at r <;> cases r
    · exact pw.elim
    · rfl
  have l1 : Le G (cutH G' p) := by
    have l0 := lg.trans f.g
    refine ⟨fun a w pw r => ?_, fun a n => ?_, fun a ws e => ?_⟩
    · have ne : a ≠ p := by rintro rfl; rcases r with r | ⟨_, r⟩ <;> rw [gp] at r <;> cases r
      rcases l0.rd a w pw r with r | ⟨o, r⟩
      · exact .inl (by rw [gne ne]; exact r)
      · exact .inr ⟨o, by rw [gne ne]; exact r⟩
    · by_cases ne : a = p
      · subst ne; exact gp
      · rw [gne ne] at n; exact l0.dom a n
    · have ne : a ≠ p := by rintro rfl; rw [gp] at e; cases e
      rw [gne ne]; exact l0.tp a ws e
  have l2 : Le (cutH G' p) (upd H' p u) := by
    refine ⟨fun a w pw r => ?_, fun a n => ?_, fun a ws e => ?_⟩
    · have ne : a ≠ p := by rintro rfl; rcases r with r | ⟨_, r⟩ <;> rw [gp'] at r <;> cases r
      have r' : Rd G' a w := by
        rcases r with r | ⟨o, r⟩ <;> rw [gne ne] at r
        · exact .inl r
        · exact .inr ⟨o, r⟩
      rcases R'.le.rd a w pw r' with r | ⟨o, r⟩
      · exact .inl (by rw [upd_ne ne]; exact r)
      · exact .inr ⟨o, by rw [upd_ne ne]; exact r⟩
    · by_cases ne : a = p
      · subst ne; exact gp'
      · rw [upd_ne ne] at n; rw [gne ne]; exact R'.le.dom a n
    · have ne : a ≠ p := by rintro rfl; rw [gp'] at e; cases e
      rw [gne ne] at e; rw [upd_ne ne]; exact R'.le.tp a ws e
  obtain ⟨D, rfl, gD, oD, nO⟩ := ok
  have hD0 := y D rfl
  have nDp : D ≠ p := by rintro rfl; rw [upd_same] at hD0; cases hD0
  have hD : H D = none := by rw [upd_ne nDp] at hD0; exact hD0
  have keep' : ∀ q ob, H q = some ob → (upd H' p u) q = some ob := fun q ob e => by
    by_cases ne : q = p
    · subst ne; rw [hp] at e; cases e; exact upd_same
    · rw [upd_ne ne]; exact keep q ob ne e
  have gfr' : ∀ q, NoT (H q) → G q = none → (cutH G' p) q = none := fun q a b => by
    by_cases ne : q = p
    · subst ne; exact gp'
    · rw [gne ne]; exact gfr q ne a b
  refine ⟨hp', k _ _ _ ⟨⟨l1, fun q ob e _ => keep' q ob e, fun q a b _ => gfr' q a b, fun q z => .inl z, fun q n => ?_, fun j t e => ⟨t, e, rfl⟩, fun j t e => ⟨t, e⟩⟩, fun _ _ e => e, fun j t e => .inl ⟨t, e⟩, fun j t e => ⟨t, e⟩⟩
    ⟨l2, R.len, fun j t e => ?_, fun j t e => ?_, R.apart⟩ ⟨D, rfl, by rw [gne nDp]; exact gD, ?_, fun z => (R.own_ne z).1 hD⟩ fun q e => by cases e; exact hD⟩
  · cases e : H q with
    | none => exact absurd e n
    | some ob => rw [keep' q ob e]; simp
  · obtain ⟨v, x, y⟩ := R.fz j t e
    exact ⟨v, x, y.mono l1⟩
  · obtain ⟨q, x, y, z⟩ := R.ow j t e
    obtain ⟨ob, eo, _⟩ := z.some
    exact ⟨q, x, gfr' q z.noT y, z.mono l1 (by rw [eo]; exact keep' q ob eo)⟩
  · cases oD with
    | lst hDl rs =>
      refine .lst (by rw [upd_ne nDp]; exact hDl) (Rels.off (fun ws z => ?_) (fun ws z => ?_) nd rs)
      · exact o.nl ws (rp (.lst ws) trivial z).symm
      · exact o.nt ws (rp (.tup ws) trivial (.inl z)).symm
theorem imp_lcN {hid : Bool} (hv : ∀ i ∈ vs, i ∈ own) (h : tS K (mLcN hid i own g tt te) σ H Q) :
    (tLockE (tLc (iKeys (tVar i)) (gS K vs g) (tT K tt) (tS K te) own) σ H Q ∨ tLc (iKeys (tVar i)) (gS K vs g) (tT K tt) (tS K te) own σ H Q) ∨ (tLc (iList K (tVar i)) (gS K vs g) (tT K tt) (tS K te) own σ H Q ∨ tLc (iS K (iSeq (mV i))) (gS K vs g) (tT K tt) (tS K te) own σ H Q) := by
  obtain ⟨G, cs, R, r, csf, e, k⟩ := h
  simp only [mLcN] at e
  split at e
  · rename_i kvs hc
    split at e
    · rename_i hlen
      split at e
      · rename_i tot c2 h2
        cases e
        exact .inl (lcD_fz hv hlen R hc h2 k)
      · cases e
    · cases e
  · rename_i kvs hc
    split at e
    · rename_i hlen
      split at e
      · rename_i tot c2 h2
        split at e
        · rename_i nd
          cases e
          exact .inl (.inl (lcD_ow hv hlen R hc h2 nd k))
        · cases e
      · cases e
    · cases e
  · cases hid with
    | true => exact .inr (imp_lcH hv ⟨G, cs, R, r, csf, e, k⟩)
    | false => exact .inr (.inr (imp_lc hv ⟨G, cs, R, r, csf, e, k⟩))
end
section
variable {X : Cx} {elt tg : Expr} {ifs : List Expr} {scope : Scope} {own : List (Str × Nat)} {vs : List Nat} {pos spos py px : Pos} {g : MG} {tt : MT} {te : ME} {i : Nat} {x : Str}
theorem se_lcN (hid : Bool) (hc : X.calm = true) (hN : X.N.Nodup) (hx : X.N[i]? = some x) (hvis : Vis X.env.scope x) (ok : BlkOk X.N X.env.scope scope own) (hv : ∀ i ∈ vs, i ∈ own.map (·.2))
    (hg : ∀ (s : Shared) (H : Hp) (C : Addr) (cl : List (Str × Addr)) (fp : List Addr), SG (X.blk s H scope (compEnvC scope cl C X.env) fp) tg vs g) (ht : ∀ (s : Shared) (H : Hp) (C : Addr) (cl : List (Str × Addr)) (fp : List Addr), STs (X.blk s H scope (compEnvC scope cl C X.env) fp) ifs tt)
    (he : ∀ (s : Shared) (H : Hp) (C : Addr) (cl : List (Str × Addr)) (fp : List Addr), SE (X.blk s H scope (compEnvC scope cl C X.env) fp) elt te) (hd : (x == ("__debug__" : Str)) = false := by decide) (hcd : (x == ("__classdict__" : Str)) = false := by decide) (hs : ∀ z, foldedSetIterable (.Name x px) X.env z = pure z := by intro _; rfl) :
    SE X (.ListComp elt [⟨tg, .Name x px, ifs, 0⟩] scope pos) (mLcN hid i (own.map (·.2)) g tt te) :=
  PE.imp (PE.or (PE.or (pe_lock (pe_lc hc hN (pi_keys (pe_var hx hvis hd hcd)) ok hg ht he hs)) (pe_lc hc hN (pi_keys (pe_var hx hvis hd hcd)) ok hg ht he hs)) (PE.or (pe_lc hc hN (pi_list (pe_var hx hvis hd hcd)) ok hg ht he hs) (pe_lc hc hN (si_seq (sv i hx hvis hd hcd)) ok hg ht he hs))) fun _ _ _ h => imp_lcN hv h
theorem ss_setLcN (hid : Bool) {j : Nat} {y : Str} (hc : X.calm = true) (hN : X.N.Nodup) (hx : X.N[i]? = some x) (hvis : Vis X.env.scope x) (hy : X.N[j]? = some y) (hyl : X.env.scope.names.lookup y = some .local)
    (hsw : swapsWith (.ListComp elt [⟨tg, .Name x px, ifs, 0⟩] scope pos) (some (.Name y py)) spos.line X.env = pure true) (ok : BlkOk X.N X.env.scope scope own) (hv : ∀ i ∈ vs, i ∈ own.map (·.2))
    (hg : ∀ (s : Shared) (H : Hp) (C : Addr) (cl : List (Str × Addr)) (fp : List Addr), SG (X.blk s H scope (compEnvC scope cl C X.env) fp) tg vs g) (ht : ∀ (s : Shared) (H : Hp) (C : Addr) (cl : List (Str × Addr)) (fp : List Addr), STs (X.blk s H scope (compEnvC scope cl C X.env) fp) ifs tt)
    (he : ∀ (s : Shared) (H : Hp) (C : Addr) (cl : List (Str × Addr)) (fp : List Addr), SE (X.blk s H scope (compEnvC scope cl C X.env) fp) elt te) (hd : (x == ("__debug__" : Str)) = false := by decide) (hcd : (x == ("__classdict__" : Str)) = false := by decide) (hs : ∀ z, foldedSetIterable (.Name x px) X.env z = pure z := by intro _; rfl) :
    SS X (.Assign [.Name y py] (.ListComp elt [⟨tg, .Name x px, ifs, 0⟩] scope pos) spos) (sSet j (mLcN hid i (own.map (·.2)) g tt te)) :=
  PS.imp (PS.or (PS.or (ps_lock (ps_setLc hc hN hy hyl hsw (pi_keys (pe_var hx hvis hd hcd)) ok hg ht he hs)) (ps_setLc hc hN hy hyl hsw (pi_keys (pe_var hx hvis hd hcd)) ok hg ht he hs)) (PS.or (ps_setLc hc hN hy hyl hsw (pi_list (pe_var hx hvis hd hcd)) ok hg ht he hs) (ps_setLc hc hN hy hyl hsw (si_seq (sv i hx hvis hd hcd)) ok hg ht he hs))) fun D σ H h => by
    obtain h1 : tAsg (tS X.K (mLcN hid i (own.map (·.2)) g tt te)) (gName j) D σ H := imp_sset h
    rcases imp_lcN hv h1 with (h | h) | (h | h)
    · exact .inl (.inl h)
    · exact .inl (.inr h)
    · exact .inr (.inl h)
    · exact .inr (.inr h)
end

/-! ### for over the keys of a dict that a name holds -/
def tForD (J : It) (g : TG) (tb : TS) (D : Ends) (σ : L2.St) (H1 : Hp) : Prop := ∃ W : Nat → Nat → L2.St → Hp → Prop, (∃ m, W 0 m σ H1) ∧ ∀ i m σ H, W i m σ H →
  (J.stop i H ∧ D.nx σ H) ∨ (J.go i H ∧ ∃ N : L2.St → Hp → Prop, (∀ σ' H', N σ' H' → ∃ m', m' < m ∧ W (i + 1) m' σ' H') ∧ ∀ x H', J.yld i H x H' → g x σ H' fun σ2 H2 => tb { D with nx := N, ct := N, bk := D.nx } σ2 H2)
def sForN (i : Nat) (g : MG) (b : MS) : MS := fun cs => match cs[i]? with
  | some (.fz (.dict kvs)) => sForL g b (keysT kvs) cs
  | some (.ow (.dict kvs)) => sForL g b (keysT kvs) (cs.set i (.fz (.dict kvs)))
  | _ => sFor (iSeq (mV i)) g b cs
section
variable {X : Cx} {tg iter c : Expr} {body : List Stmt} {mi : MI} {g : MG} {b : MS} {t : MT} {vs : List Nat} {K : Fg} {D : Ends} {σ : L2.St} {G H : Hp} {pos : Pos} {cs csf : Cs} {fl : Fl} {i : Nat}
theorem for_tail {J : It} {ts : List T} (R : SR K G H cs σ) (W : ∀ (σ' : L2.St) (G' H' : Hp) (cs' : Cs), Fr σ G H cs σ' G' H' cs' → Le G' H' → (∀ i t, ts[i]? = some t → J.go i H' ∧ ∀ x H2, J.yld i H' x H2 → ∃ G2, Ext G' H' G2 H2 ∧ Rel K G2 t x) ∧ ∀ i, ts.length ≤ i → J.stop i H')
    (e : sForL g b ts cs = some (fl, csf)) (k : After K D σ G H cs csf fl) : tForD J (gS K vs g) (tSt K b) D σ H := by
  refine ⟨fun i m σ' H' => m = ts.length - i ∧ i ≤ ts.length ∧ ∃ G' cs', Fr σ G H cs σ' G' H' cs' ∧ SR K G' H' cs' σ' ∧ sForL g b (ts.drop i) cs' = some (fl, csf),
    ⟨ts.length, rfl, Nat.zero_le _, G, cs, .refl, R, e⟩, ?_⟩
  rintro i m σ' H' ⟨rfl, hi, G', cs', f', R', e'⟩
  by_cases hlt : i < ts.length
  · have ht : ts[i]? = some ts[i] := List.getElem?_eq_getElem hlt
    rw [List.drop_eq_getElem_cons hlt] at e'
    obtain ⟨go, yl⟩ := (W σ' G' H' cs' f' R'.le).1 i _ ht
    simp only [sForL] at e'
    split at e'
    · cases e'
    · rename_i c1 hg
      refine .inr ⟨go, fun σ'' H'' => ∃ G'' cs'', Fr σ G H cs σ'' G'' H'' cs'' ∧ SR K G'' H'' cs'' σ'' ∧ sForL g b (ts.drop (i + 1)) cs'' = some (fl, csf),
        fun σ'' H'' n => ⟨_, by omega, rfl, hlt, n⟩, fun x H2 y => ?_⟩
      obtain ⟨G2, x2, rel⟩ := yl x H2 y
      refine ⟨G2, cs', _, R'.ext x2, rel, c1, hg, fun σ2 _ _ f2 R2 => ?_⟩
      have fa : Fr σ G H cs σ2 G2 H2 c1 := (f'.trans (FrE.ext x2).toFr).trans f2
      split at e'
      · rename_i c2 hb
        exact ⟨G2, c1, R2, .nx, c2, hb, fun σ3 G3 H3 f3 R3 => ⟨G3, c2, fa.trans f3, R3, e'⟩⟩
      · rename_i c2 hb
        exact ⟨G2, c1, R2, .ct, c2, hb, fun σ3 G3 H3 f3 R3 => ⟨G3, c2, fa.trans f3, R3, e'⟩⟩
      · rename_i c2 hb
        cases e'
        exact ⟨G2, c1, R2, .bk, _, hb, fun σ3 G3 H3 f3 R3 => k σ3 G3 H3 (fa.trans f3) R3⟩
      · rename_i o c2 hb
        cases e'
        exact ⟨G2, c1, R2, .rt o, _, hb, k.rest fa⟩
      · cases e'
  · have ei : i = ts.length := by omega
    subst ei
    rw [List.drop_length] at e'
    cases e'
    exact .inl ⟨(W σ' G' H' _ f' R'.le).2 _ (Nat.le_refl _), k σ' G' H' f' R'⟩
theorem forD_fz {kvs : List (T × T)} (R : SR K G H cs σ) (hc : cs[i]? = some (.fz (.dict kvs))) (e : sForL g b (keysT kvs) cs = some (fl, csf)) (k : After K D σ G H cs csf fl) :
    tLock (tFor (iKeys (tVar i)) (gS K vs g) (tSt K b)) D σ H ∨ tFor (iKeys (tVar i)) (gS K vs g) (tSt K b) D σ H := by
  obtain ⟨v, ev, rel⟩ := R.fz i _ hc
  obtain ⟨a, u, rfl, rd, o⟩ := rel_dict rel
  have g0 : G a ≠ none := by rcases rd with z | ⟨_, z⟩ <;> rw [z] <;> simp
  rcases R.le.rd a u o.plain rd with h | ⟨od, h⟩
  · refine .inl ⟨a, u, h, o.mut, fun od => ?_⟩
    have R1 : SR K G (upd H a (.frz od u)) cs σ := R.lockH g0 h o.nt o.plain
    refine ikeys_of o ev upd_same ?_
    exact for_tail (D := lockD D a od u) R1 (fun σ' G' H' cs' f' l' => turnsD o f'.g l' (f'.keep a _ upd_same (not_own R1 g0))) e (k.lockH R g0 h)
  · exact .inr (ikeys_of o ev h (for_tail R (fun σ' G' H' cs' f' l' => turnsD o f'.g l' (f'.keep a _ h (not_own R g0))) e k))
theorem imp_forN (h : tSt K (sForN i g b) D σ H) :
    (tLock (tFor (iKeys (tVar i)) (gS K vs g) (tSt K b)) D σ H ∨ tFor (iKeys (tVar i)) (gS K vs g) (tSt K b) D σ H) ∨ tFor (iS K (iSeq (mV i))) (gS K vs g) (tSt K b) D σ H := by
  obtain ⟨G, cs, R, fl, csf, e, k⟩ := h
  simp only [sForN] at e
  split at e
  · rename_i kvs hc
    exact .inl (forD_fz R hc e k)
  · rename_i kvs hc
    obtain ⟨p, ep, gp, ow⟩ := R.ow i _ (.inl hc)
    obtain ⟨G1, f1, R1, rel⟩ := frz_ok (r := .sl i) (v := .ref p) (cs1 := cs.set i (.fz (.dict kvs))) (t := .dict kvs) FrE.refl R ⟨ep, .inl ⟨_, .inl hc⟩⟩ trivial (by simp [frz, hc])
    exact .inl (forD_fz R1 (set_self (lt_of_get hc)) e (k.rest f1.toFr))
  · exact .inr (imp_for ⟨G, cs, R, fl, csf, e, k⟩)
theorem ss_forN {x : Str} {px : Pos} (hp : PassesOwn (model X.prog X.w) X.A X.env X.xe) (hc : X.calm = true) (hx : X.N[i]? = some x) (hvis : Vis X.env.scope x) (hg : SG X tg vs g) (hb : SSs X body b)
    (hd : (x == ("__debug__" : Str)) = false := by decide) (hcd : (x == ("__classdict__" : Str)) = false := by decide) (hs : ∀ z, foldedSetIterable (.Name x px) X.env z = pure z := by intro _; rfl) : SS X (.For tg (.Name x px) body [] pos) (sForN i g b) :=
  PS.imp (PS.or (PS.or (ps_lock (ps_for hp hc (pi_keys (pe_var hx hvis hd hcd)) hg hb hs)) (ps_for hp hc (pi_keys (pe_var hx hvis hd hcd)) hg hb hs)) (ps_for hp hc (si_seq (sv i hx hvis hd hcd)) hg hb hs)) fun _ _ _ h => imp_forN h
end
end TL
namespace TL
open PySem PySem.Spec L2

/-! ### what a function of several kinds does -/
def altF (F F' : List T → Option Out) (ts : List T) : Option Out := match F ts with
  | some o => some o
  | none => F' ts
def altO (F F' : T → T → Option Out) (a b : T) : Option Out := match F a b with
  | some o => some o
  | none => F' a b
section
variable {X : Cx} {f : Value} {F F' : List T → Option Out}
theorem c_alt (h : CallR X f (rT X.K F)) (h' : CallR X f (rT X.K F')) : CallR X f (rT X.K (altF F F')) := by
  intro pins s σ H xs us Q I r ⟨G, ts, o, l, ps, e, k⟩
  unfold altF at e
  split at e
  · rename_i o' e'
    cases e
    exact h pins s σ H xs us Q I r ⟨G, ts, _, l, ps, e', k⟩
  · exact h' pins s σ H xs us Q I r ⟨G, ts, o, l, ps, e, k⟩
theorem o_alt {f : Value → Value → Sem Value} {F F' : T → T → Option Out} (h : OpR X f (r2T X.K F)) (h' : OpR X f (r2T X.K F')) : OpR X f (r2T X.K (altO F F')) :=
  OpR.alt h h' fun a b o e => by
    unfold altO at e
    split at e
    · rename_i o' e'
      cases e
      exact .inl e'
    · exact .inr e
end
section
variable {K : Fg} {G H : Hp} {kvs : List (T × T)} {x : V}
theorem peekD (l : Le G H) (p : Peek K G H (.dict kvs) x) : ∃ a u, x = .ref a ∧ Rd H a u ∧ DOb K G kvs u := by
  cases p with
  | fz h =>
    obtain ⟨a, u, e, rd, o⟩ := rel_dict h
    exact ⟨a, u, e, l.rd _ _ o.plain rd, o⟩
  | ow h =>
    obtain ⟨u, e, o⟩ := own_dict h
    exact ⟨_, u, rfl, .inl e, o⟩
theorem relK_map : ∀ {ts : List (T × T)} {kk : List (Key × V)}, RelK K G ts kk → (kk.map (·.1)).map some = ts.map fun p => kOf p.1
  | _, _, .nil => rfl
  | _, _, .cons e _ r => by
    rw [List.map_cons, List.map_cons, List.map_cons, relK_map r, e]
theorem relK_rels : ∀ {ts : List (T × T)} {kk : List (Key × V)}, RelK K G ts kk → Rels K G (keysT ts) (kk.map fun kv => kV kv.1)
  | _, _, .nil => .nil
  | _, _, @RelK.cons _ _ k t k' v ts vs e _ r => by
    refine .cons ?_ (relK_rels r)
    cases k <;> cases e
    · exact .int _
    · exact .str _
theorem relT_noK : ∀ {ts : List (T × T)} {kk : List (List Key × V)}, RelT K G ts kk → ts ≠ [] → (ts.all fun p => (kOf p.1).isSome) = false
  | _, _, .nil, h => absurd rfl h
  | _, _, @RelT.cons _ _ k t k' v ts vs e _ r, _ => by
    cases k with
    | tuple _ => rfl
    | _ => cases e
end

/-! ### len, list, dict -/
def lenDk : List T → Option Out
  | [.dict kvs] => some (.fz (.int kvs.length))
  | _ => none
def listDk : List T → Option Out
  | [.dict kvs] => some (.nw (.list (keysT kvs)))
  | _ => none
def isK (kvs : List (T × T)) : Bool := kvs.all fun p => (kOf p.1).isSome
def pairsT : List T → List (T × T) → Option (List (T × T))
  | [], acc => some acc
  | .tuple [k, v] :: r, acc => match kOf k with
    | some k' => pairsT r (kPut kOf k k' v acc)
    | none => none
  | _ :: _, _ => none
def dictT : List T → Option Out
  | [.dict kvs] => if isK kvs then some (.nw (.dict kvs)) else none
  | [.list ps] => match pairsT ps [] with
    | some kvs => some (.nw (.dict kvs))
    | none => none
  | _ => none
def lenG := altF lenT lenDk
def listG := altF listT listDk
theorem DOb.isK {K : Fg} {G : Hp} {kvs : List (T × T)} {u : HO} (o : DOb K G kvs u) (h : isK kvs = true) : ∃ kk, u = .dK kk ∧ RelK K G kvs kk := by
  cases o with
  | k r => exact ⟨_, rfl, r⟩
  | t r n =>
    have := relT_noK r n
    unfold TL.isK at h
    rw [h] at this; cases this
theorem ext_keys {K : Fg} {G H : Hp} : ∀ {ts : List (T × T)} {kk : List (List Key × V)} {bs : List Addr}, RelT K G ts kk → IsKeys H kk bs → Le G H → ∃ G', Ext G H G' H ∧ Rels K G' (keysT ts) (bs.map V.ref)
  | _, _, [], .nil, _, l => ⟨G, .refl l, .nil⟩
  | _, _, _ :: _, .nil, h, _ => by cases h
  | _, _, [], .cons _ _ _, h, _ => by cases h
  | _, _, b :: bs, @RelT.cons _ _ k t k' v ts vs e _ r, h, l => by
    unfold IsKeys at h
    cases h with
    | cons hb hr =>
      obtain ⟨G1, x1, r1⟩ := ext_keys r hr l
      have x2 := tup_in x1.le hb
      refine ⟨_, x1.trans x2, ?_⟩
      refine .cons ?_ (r1.mono x2.g)
      cases k with
      | tuple ts' => exact .tup upd_same (rels_keys e)
      | _ => cases e
section
variable {X : Cx}
theorem c_lenDk : CallR X (.builtin "len") (rT X.K lenDk) := by
  intro pins s σ H xs us Q I r ⟨G, ts, o, l, ps, e, k⟩
  unfold lenDk at e
  split at e
  · rename_i kvs
    cases e
    obtain ⟨v, rfl, p⟩ := ps.one
    obtain ⟨a, u, rfl, rd, o⟩ := peekD l p
    rw [Vals.ref1 r]
    have q := k G H (.int (kvs.length : Nat)) (.refl l) (.int _)
    cases o with
    | k rk =>
      obtain ⟨z, hd, vs, rel, dd⟩ := dk_rd I.hok rd
      have hl : kvs.length = vs.length := by rw [← rk.length]; exact Paired.length rel
      rw [rk.length] at z
      refine call_len_dict hd dd (by rw [← hl]; rw [sizeLine_eq] at z; omega) ?_
      rw [← hl]
      exact ⟨.int ((kvs.length : Nat) : Int), H, I.tok _, ⟨_, rfl⟩, q⟩
    | t rt n =>
      obtain ⟨z, hd, ys, rel, dd⟩ := dt_rd I.hok rd
      have hl : kvs.length = ys.length := by rw [← rt.length]; exact Paired.length rel
      rw [rt.length] at z
      refine call_len_dictH hd dd (by rw [← hl]; rw [sizeLine_eq] at z; omega) ?_
      rw [← hl]
      exact ⟨.int ((kvs.length : Nat) : Int), H, I.tok _, ⟨_, rfl⟩, q⟩
  · cases e
theorem c_lenG : CallR X (.builtin "len") (rT X.K lenG) := c_alt c_len c_lenDk
theorem c_listDk (hc : X.calm = true) : CallR X (.type "list") (rT X.K listDk) := by
  intro pins s σ H xs us Q I r ⟨G, ts, o, l, ps, e, k⟩
  unfold listDk at e
  split at e
  · rename_i kvs
    cases e
    obtain ⟨v, rfl, p⟩ := ps.one
    obtain ⟨a, u, rfl, rd, o⟩ := peekD l p
    cases o with
    | k rk =>
      exact call_listD hc pins s σ H _ us Q I r ⟨a, _, rfl, rd, fun q nq => k _ _ _ (.own l nq) ⟨q, rfl, nq, l.dom _ nq, .lst upd_same (relK_rels rk)⟩⟩
    | t rt n =>
      refine call_list_dT hc pins s σ H _ us Q I r ⟨a, _, rfl, rd, fun q bs nq hb => ?_⟩
      obtain ⟨G', x, rs⟩ := ext_keys rt hb l
      have gq : G' q = none := x.le.dom q nq
      exact k _ _ _ (x.trans (.own x.le nq)) ⟨q, rfl, nq, gq, .lst upd_same rs⟩
  · cases e
theorem c_listG (hc : X.calm = true) : CallR X (.type "list") (rT X.K listG) := c_alt c_list (c_listDk hc)
theorem pairs_ok {K : Fg} {G H : Hp} (l : Le G H) : ∀ {ps : List T} {vs : List V} {acc out : List (T × T)} {kk : List (Key × V)}, Rels K G ps vs → pairsT ps acc = some out → RelK K G acc kk →
    ∃ (qs : List Addr) (kvs : List (Key × V)), vs = qs.map V.ref ∧ Paired (fun p (kv : Key × V) => SqT K H p [kV kv.1, kv.2]) qs kvs ∧ RelK K G out (mergeK kk kvs)
  | _, _, acc, out, kk, .nil, h, ra => by
    cases h
    exact ⟨[], [], rfl, .nil, ra⟩
  | _, _, acc, out, kk, .cons (t := t) a r, h, ra => by
    unfold pairsT at h
    split at h
    · cases ‹_ = []›
    · rename_i k v r' acc' hx
      split at h
      · rename_i k' hk
        injection hx with h1 h2
        subst h1; subst h2
        cases a with
        | tup ht rs =>
          cases rs with
          | cons ak rs =>
            cases rs with
            | cons av rs =>
              cases rs
              obtain ⟨qs, kvs, e, p, m⟩ := pairs_ok l r h (RelK.put hk av ra)
              have ek := Rel.kOf hk ak
              subst ek
              exact ⟨_ :: qs, (k', _) :: kvs, by rw [e, List.map_cons], .cons (.inl (.inl (l.tp _ _ ht))) p, m⟩
      · cases h
    · cases h
theorem c_dict (hc : X.calm = true) : CallR X (.type "dict") (rT X.K dictT) := by
  intro pins s σ H xs us Q I r ⟨G, ts, o, l, ps, e, k⟩
  unfold dictT at e
  split at e
  · rename_i kvs
    split at e
    · rename_i hk
      cases e
      obtain ⟨v, rfl, p⟩ := ps.one
      obtain ⟨a, u, rfl, rd, o⟩ := peekD l p
      obtain ⟨kk, rfl, rk⟩ := o.isK hk
      exact call_dictD pins s σ H _ us Q I r ⟨a, _, rfl, rd, fun q nq => k _ _ _ (.own l nq) ⟨q, rfl, nq, l.dom _ nq, .dk upd_same rk⟩⟩
    · cases e
  · rename_i rows
    split at e
    · rename_i kvs hp
      cases e
      obtain ⟨v, rfl, p⟩ := ps.one
      obtain ⟨a, vs, rfl, hr, rs⟩ := p.lst l
      obtain ⟨qs, kv, ev, pr, m⟩ := pairs_ok l rs hp .nil
      subst ev
      exact call_dictP hc pins s σ H _ us Q I r ⟨a, qs, kv, rfl, .inl hr, pr, fun q nq => k _ _ _ (.own l nq) ⟨q, rfl, nq, l.dom _ nq, .dk upd_same m⟩⟩
    · cases e
  · cases e
end

/-! ### sorted -/
def isStr : T → Bool
  | .str _ => true
  | _ => false
def isInt : T → Bool
  | .int _ => true
  | _ => false
def sortedDk : List T → Option Out
  | [.dict kvs] => if kvs.length < 64 ∧ ((kvs.all fun p => isStr p.1) = true ∨ (kvs.all fun p => isInt p.1) = true) then some (.nw (.list (sortT (keysT kvs)))) else none
  | _ => none
def sortedH := altF sortedG sortedDk
theorem rising_le : ∀ {l : List Str} {p : Str}, PyProof.Rows.risingS p l = true → (p :: l).Pairwise fun a b => a.cps.toList ≤ b.cps.toList
  | [], p, _ => .cons (fun _ h => by cases h) .nil
  | x :: r, p, h => by
    simp only [PyProof.Rows.risingS, Bool.and_eq_true, Bool.not_eq_true', PyProof.Rows.ltCps_eq, decide_eq_false_iff_not] at h
    have ih := rising_le h.2
    refine .cons (fun y hy => ?_) ih
    have px : p.cps.toList ≤ x.cps.toList := List.not_lt.mp h.1
    rcases List.mem_cons.mp hy with rfl | hy
    · exact px
    · exact List.le_trans px (List.rel_of_pairwise_cons ih hy)
theorem sortedS_le {l : List Str} (h : PyProof.Rows.sortedS l = true) : l.Pairwise fun a b => a.cps.toList ≤ b.cps.toList := by
  cases l with
  | nil => exact .nil
  | cons x r => exact rising_le h
theorem str_ext {a b : Str} (h : a.cps.toList = b.cps.toList) : a = b := by
  cases a with
  | mk x =>
    cases b with
    | mk y =>
      obtain ⟨x⟩ := x
      obtain ⟨y⟩ := y
      cases h
      rfl
theorem sortT_strs {ks ys : List Str} (p : ys.Perm ks) (h : PyProof.Rows.sortedS ys = true) : sortT (ks.map .str) = ys.map .str := by
  unfold sortT
  have e : (ks.mergeSort (W.dataLe false (fun b : Str => .str (id b)))).map PyData.str = (ks.map .str).mergeSort (W.dataLe false id) := List.map_mergeSort (r := W.dataLe false (fun b : Str => .str (id b))) (s := W.dataLe false id) (f := PyData.str) fun _ _ _ _ => rfl
  rw [← e]
  congr 1
  rw [W.dataLe_str id]
  refine List.Perm.eq_of_pairwise (le := fun a b : Str => a.cps.toList ≤ b.cps.toList) (fun a b _ _ x y => str_ext (List.le_antisymm x y)) ?_ (sortedS_le h) ((List.mergeSort_perm _ _).trans p.symm)
  have := List.pairwise_mergeSort (le := fun a b : Str => decide ((id a).cps.toList ≤ (id b).cps.toList)) (fun a b c h k => by simp only [decide_eq_true_eq] at *; exact List.le_trans h k) (fun a b => by simp only [Bool.or_eq_true, decide_eq_true_eq]; exact List.le_total _ _) ks
  exact this.imp fun h => by simpa using h
theorem sortT_ints {ks ys : List Int} (p : ys.Perm ks) (h : ys.Pairwise (· ≤ ·)) : sortT (ks.map .int) = ys.map .int := by
  unfold sortT
  have e : (ks.mergeSort (W.dataLe false (fun b : Int => .int (id b)))).map PyData.int = (ks.map .int).mergeSort (W.dataLe false id) := List.map_mergeSort (r := W.dataLe false (fun b : Int => .int (id b))) (s := W.dataLe false id) (f := PyData.int) fun _ _ _ _ => rfl
  rw [← e]
  congr 1
  rw [W.dataLe_int id]
  refine List.Perm.eq_of_pairwise (le := fun a b : Int => a ≤ b) (fun a b _ _ x y => Int.le_antisymm x y) ?_ h ((List.mergeSort_perm _ _).trans p.symm)
  have := List.pairwise_mergeSort (le := fun a b : Int => decide (id a ≤ id b)) (fun a b c h k => by simp only [decide_eq_true_eq, id] at *; omega) (fun a b => by simp only [Bool.or_eq_true, decide_eq_true_eq, id]; omega) ks
  exact this.imp fun h => by simpa using h
theorem keys_str {K : Fg} {G : Hp} : ∀ {ts : List (T × T)} {kk : List (Key × V)}, RelK K G ts kk → (ts.all fun p => isStr p.1) = true → ∃ ks : List Str, kk.map (·.1) = ks.map Sum.inr ∧ keysT ts = ks.map .str
  | _, _, .nil, _ => ⟨[], rfl, rfl⟩
  | _, _, @RelK.cons _ _ k t k' v ts vs e _ r, h => by
    rw [List.all_cons, Bool.and_eq_true] at h
    obtain ⟨ks, e1, e2⟩ := keys_str r h.2
    cases k with
    | str x =>
      cases e
      exact ⟨x :: ks, by simp [e1], by simp [keysT] at e2 ⊢; exact e2⟩
    | _ => cases h.1
theorem keys_int {K : Fg} {G : Hp} : ∀ {ts : List (T × T)} {kk : List (Key × V)}, RelK K G ts kk → (ts.all fun p => isInt p.1) = true → ∃ ks : List Int, kk.map (·.1) = ks.map Sum.inl ∧ keysT ts = ks.map .int
  | _, _, .nil, _ => ⟨[], rfl, rfl⟩
  | _, _, @RelK.cons _ _ k t k' v ts vs e _ r, h => by
    rw [List.all_cons, Bool.and_eq_true] at h
    obtain ⟨ks, e1, e2⟩ := keys_int r h.2
    cases k with
    | int x =>
      cases e
      exact ⟨x :: ks, by simp [e1], by simp [keysT] at e2 ⊢; exact e2⟩
    | _ => cases h.1
theorem relT_noSI {K : Fg} {G : Hp} : ∀ {ts : List (T × T)} {kk : List (List Key × V)}, RelT K G ts kk → ts ≠ [] → (ts.all fun p => isStr p.1) = false ∧ (ts.all fun p => isInt p.1) = false
  | _, _, .nil, h => absurd rfl h
  | _, _, @RelT.cons _ _ k t k' v ts vs e _ r, _ => by
    cases k with
    | tuple _ => exact ⟨rfl, rfl⟩
    | _ => cases e
section
variable {X : Cx}
theorem rels_strs {K : Fg} {G : Hp} : ∀ ks : List Str, Rels K G (ks.map .str) (ks.map V.str)
  | [] => .nil
  | k :: ks => .cons (.str k) (rels_strs ks)
theorem rels_ints' {K : Fg} {G : Hp} : ∀ ks : List Int, Rels K G (ks.map .int) (ks.map V.int)
  | [] => .nil
  | k :: ks => .cons (.int k) (rels_ints' ks)
theorem c_sortedDk (hc : X.calm = true) : CallR X (.builtin "sorted") (rT X.K sortedDk) := by
  intro pins s σ H xs us Q I r ⟨G, ts, o, l, ps, e, k⟩
  unfold sortedDk at e
  split at e
  · rename_i kvs
    split at e
    · rename_i hcond
      cases e
      obtain ⟨v, rfl, p⟩ := ps.one
      obtain ⟨a, u, rfl, rd, o⟩ := peekD l p
      cases o with
      | k rk =>
        rcases hcond.2 with h | h
        · obtain ⟨ks, e1, e2⟩ := keys_str rk h
          have hl : ks.length < 64 := by
            have := congrArg List.length e2
            simp [keysT] at this
            omega
          refine call_sortedD hc pins s σ H _ us Q I r ⟨a, _, ks, rfl, rd, e1, hl, fun ys q py sy nq => ?_⟩
          rw [e2, sortT_strs py sy] at k
          exact k _ _ _ (.own l nq) ⟨q, rfl, nq, l.dom _ nq, .lst upd_same (rels_strs ys)⟩
        · obtain ⟨ks, e1, e2⟩ := keys_int rk h
          have hl : ks.length < 64 := by
            have := congrArg List.length e2
            simp [keysT] at this
            omega
          refine call_sortedDI hc pins s σ H _ us Q I r ⟨a, _, ks, rfl, rd, e1, hl, fun ys q py sy nq => ?_⟩
          rw [e2, sortT_ints py sy] at k
          exact k _ _ _ (.own l nq) ⟨q, rfl, nq, l.dom _ nq, .lst upd_same (rels_ints' ys)⟩
      | t rt n =>
        obtain ⟨h1, h2⟩ := relT_noSI rt n
        rcases hcond.2 with h | h
        · rw [h1] at h; cases h
        · rw [h2] at h; cases h
    · cases e
  · cases e
theorem c_sortedH (hc : X.calm = true) (hu : X.A.units + 64 < cLine) : CallR X (.builtin "sorted") (rT X.K sortedH) := c_alt (c_sortedG hu) (c_sortedDk hc)
end

/-! ### dicts compared -/
def dEqA (us : List (T × T)) (ts : List (T × T)) : Bool := ts.all fun p => match kOf p.1 with
  | some k => match kFind kOf k us with
    | some t => PyData.eqv p.2 t
    | none => false
  | none => false
def okV (kvs : List (T × T)) : Bool := kvs.all fun p => okD 18 p.2
def eqDk : T → T → Option Out
  | .dict ks, .dict us => if (isK ks && isK us && okV ks && okV us) = true then some (.fz (.bool (ks.length == us.length && dEqA us ks))) else none
  | .str x, .str y => some (.fz (.bool (decide (x = y))))
  | _, _ => none
def neDk : T → T → Option Out
  | .dict ks, .dict us => if (isK ks && isK us && okV ks && okV us) = true then some (.fz (.bool (!(ks.length == us.length && dEqA us ks)))) else none
  | .str x, .str y => some (.fz (.bool (!decide (x = y))))
  | _, _ => none
def eqG := altO eqT eqDk
def neG := altO neT neDk
section
variable {X : Cx} {K : Fg} {G H : Hp} {pins : List (Addr × Obj)} {σ : L2.St} {s : Shared} {A : Around}
theorem okV_find {k : Key} {t : T} : ∀ {us : List (T × T)}, okV us = true → kFind TL.kOf k us = some t → okD 18 t = true
  | [], _, h => by cases h
  | (a, v) :: r, h, e => by
    unfold okV at h
    rw [List.all_cons, Bool.and_eq_true] at h
    simp only [kFind] at e
    split at e
    · cases e; exact h.1
    · exact okV_find h.2 e
theorem hits_of (I : Inv X pins σ H s) (l : Le G H) (hu : A.units + 20 < cLine) {us : List (T × T)} {lb : List (Key × V)} {vb : List (Key × Value)} (ru : RelK X.K G us lb) (kb : KV lb vb) (ou : okV us = true) :
    ∀ {ts : List (T × T)} {la : List (Key × V)} {va : List (Key × Value)}, RelK X.K G ts la → KV la va → okV ts = true → PySem.W.KeqHits A s vb va (dEqA us ts)
  | _, _, va, .nil, ka, _ => by
    unfold KV at ka
    cases ka
    exact .nil
  | _, _, va, @RelK.cons _ _ a t k' v ts vs e rv r, ka, ot => by
    unfold KV at ka
    cases ka with
    | cons h1 h2 =>
      rename_i q qs
      obtain ⟨qk, qv⟩ := q
      obtain ⟨hk, hv⟩ := h1
      have hk : k' = qk := hk
      subst hk
      unfold okV at ot
      rw [List.all_cons, Bool.and_eq_true] at ot
      have ih := hits_of I l hu ru kb ou r h2 ot.2
      have ev := kb.val k'
      unfold dEqA
      rw [List.all_cons]
      show PySem.W.KeqHits A s vb ((k', qv) :: qs) ((match TL.kOf a with
        | some k => match kFind TL.kOf k us with
          | some t' => PyData.eqv t t'
          | none => false
        | none => false) && dEqA us ts)
      rw [e]
      cases hf : kFind TL.kOf k' us with
      | none =>
        rw [ru.find.2 hf] at ev
        have hn : valueAt vb k' = none := by
          cases hq : valueAt vb k' with
          | none => rfl
          | some y => rw [hq] at ev; cases ev
        simp only [hf, Bool.false_and]
        exact .miss hn
      | some t' =>
        obtain ⟨w, ew, rw'⟩ := ru.find.1 t' hf
        rw [ew] at ev
        obtain ⟨y, hy, ry⟩ := RelO.some_of ev
        have ok1 : okD 18 t = true := ot.1
        have ok2 := okV_find ou hf
        obtain ⟨as, r1⟩ := Dp.reads I _ _ _ ((rv.mono l).dp 18 ok1) hv
        obtain ⟨bs, r2⟩ := Dp.reads I _ _ _ ((rw'.mono l).dp 18 ok2) ry
        obtain ⟨l1, d1⟩ := okD_lay t 18 ok1
        obtain ⟨l2, d2⟩ := okD_lay t' 18 ok2
        simp only [hf]
        exact .hit hy (SeqAt.eqAt_reads t t' A s qv y as bs r1 r2 l1 l2 (by omega)) ih
end
section
variable {X : Cx}
theorem o_eqDk (hu : X.A.units + 64 < cLine) : OpR X (compareOp .Eq) (r2T X.K eqDk) := by
  intro pins s σ H x y v u Q I rx ry ⟨G, a, b, o, l, pa, pb, e, k⟩
  unfold eqDk at e
  split at e
  · rename_i ks us
    split at e
    · rename_i h
      cases e
      simp only [Bool.and_eq_true] at h
      obtain ⟨⟨⟨h1, h2⟩, h3⟩, h4⟩ := h
      obtain ⟨a, ua, rfl, rda, oa⟩ := peekD l pa
      obtain ⟨b, ub, rfl, rdb, ob⟩ := peekD l pb
      obtain ⟨la, rfl, ra⟩ := oa.isK h1
      obtain ⟨lb, rfl, rb⟩ := ob.isK h2
      obtain rfl : v = Value.ref a := rx
      obtain rfl : u = Value.ref b := ry
      obtain ⟨_, ya, va, ka, da⟩ := dk_rd I.hok rda
      obtain ⟨_, yb, vb, kb, db⟩ := dk_rd I.hok rdb
      have e1 : va.length = ks.length := by rw [← ka.length, ra.length]
      have e2 : vb.length = us.length := by rw [← kb.length, rb.length]
      refine PySem.W.keq_eq (knd := mixKind X.prog X.w) (r := dEqA us ks) ya yb da db (by omega) (fun _ => hits_of I l (by show X.A.units + 1 + 20 < cLine; omega) rb kb h4 ra ka h3) ?_
      rw [e1, e2]
      exact ⟨.bl _, H, I, rfl, k G H _ (.refl l) (.bl _)⟩
    · cases e
  · rename_i a b
    cases e
    have ea := pa.str
    have eb := pb.str
    subst ea; subst eb
    have q := k G H (.bl (decide (a = b))) (.refl l) (.bl _)
    refine op_eq pins s σ H _ _ v u Q I rx ry ⟨rfl, ?_⟩
    have e1 : decide (V.str a = V.str b) = decide (a = b) := by simp
    rw [e1]; exact q
  · cases e
theorem o_neDk (hu : X.A.units + 64 < cLine) : OpR X (compareOp .NotEq) (r2T X.K neDk) := by
  intro pins s σ H x y v u Q I rx ry ⟨G, a, b, o, l, pa, pb, e, k⟩
  unfold neDk at e
  split at e
  · rename_i ks us
    split at e
    · rename_i h
      cases e
      simp only [Bool.and_eq_true] at h
      obtain ⟨⟨⟨h1, h2⟩, h3⟩, h4⟩ := h
      obtain ⟨a, ua, rfl, rda, oa⟩ := peekD l pa
      obtain ⟨b, ub, rfl, rdb, ob⟩ := peekD l pb
      obtain ⟨la, rfl, ra⟩ := oa.isK h1
      obtain ⟨lb, rfl, rb⟩ := ob.isK h2
      obtain rfl : v = Value.ref a := rx
      obtain rfl : u = Value.ref b := ry
      obtain ⟨_, ya, va, ka, da⟩ := dk_rd I.hok rda
      obtain ⟨_, yb, vb, kb, db⟩ := dk_rd I.hok rdb
      have e1 : va.length = ks.length := by rw [← ka.length, ra.length]
      have e2 : vb.length = us.length := by rw [← kb.length, rb.length]
      refine PySem.W.keq_ne (knd := mixKind X.prog X.w) (r := dEqA us ks) ya yb da db (by omega) (fun _ => hits_of I l (by show X.A.units + 1 + 20 < cLine; omega) rb kb h4 ra ka h3) ?_
      rw [e1, e2]
      exact ⟨.bl _, H, I, rfl, k G H _ (.refl l) (.bl _)⟩
    · cases e
  · rename_i a b
    cases e
    have ea := pa.str
    have eb := pb.str
    subst ea; subst eb
    have q := k G H (.bl (!decide (a = b))) (.refl l) (.bl _)
    refine op_ne pins s σ H _ _ v u Q I rx ry ⟨rfl, ?_⟩
    have e1 : decide (V.str a = V.str b) = decide (a = b) := by simp
    rw [e1]; exact q
  · cases e
theorem o_eqG (hu : X.A.units + 64 < cLine) : OpR X (compareOp .Eq) (r2T X.K eqG) := o_alt (o_eq hu) (o_eqDk hu)
theorem o_neG (hu : X.A.units + 64 < cLine) : OpR X (compareOp .NotEq) (r2T X.K neG) := o_alt (o_ne hu) (o_neDk hu)
end
end TL
namespace TL
open PySem PySem.Spec L2
open PyProof.Rows

/-! ### defs that want to know that no repr is under way -/
structure FnG (P : Program) (w : World) (K : Fg) (mg : Str → Option Value) (base : Heap) (CX : CXT) (k : Nat) (f : Addr) (fd : FuncData) (ps : List Str) (sp : Sp) : Prop where
  many : ∀ vs H Q E, sp vs H Q E → vs.length = ps.length
  goes : ∀ (A : Around) (outer : List Env) (s : Shared) (H : Hp) (args : Args) (us : List Value) (vs : List V) (Q : VK) (E : XK), A.guards = some [] → Room k A → Env0 P w K mg base A outer s H →
    BindsTo s fd args (ps.zip us) → Vals vs us → sp vs H Q E → codeAny (model P w) A (.call (.ref f) args) (CR CX outer P w H s Q E) s
section
variable {P : Program} {w : World} {K : Fg} {mg : Str → Option Value} {base : Heap} {CX : CXT} {j k : Nat} {f : Addr} {fd : FuncData} {ps : List Str} {sp : Sp}
theorem FnG.of (F : FnOk P w K mg base CX k f fd ps sp) : FnG P w K mg base CX k f fd ps sp :=
  ⟨F.len, fun A outer s H args us vs Q E _ => F.run A outer s H args us vs Q E⟩
theorem deeper_guards {A : Around} {env : Env} (h : A.guards = some []) : (A.deeper env).guards = some [] := by
  first
    | exact h
    | (unfold Around.deeper; exact h)
    | simpa [Around.deeper] using h
/-- a body that stands for its def -/
theorem fn_okG {x qual : Str} {st : Stmt} {N : List Str} {n : Nat} {b : MS} (F : Fun K x qual st f fd) (S : FnScope N ps (defScope st)) (hn : N.length = ps.length + n)
    (hbody : ∀ (cdv : Value) (A : Around) (outer : List Env) (s : Shared) (H : Hp) (E : XK), (A.deeper (envOfC qual (defScope st) s.heap.objs.size f cdv)).guards = some [] → Room k (A.deeper (envOfC qual (defScope st) s.heap.objs.size f cdv)) →
      SSs (cxOf CX0 P w K mg base N qual (defScope st) f cdv A outer s H E).nox (defBody st) b) : FnG P w K mg base CX0 (k + 1) f fd ps (spS K ps.length (runF n b)) := by
  obtain ⟨c1, c2, c3, c4, c5, c6, c7, c8, c9, rfl, look, code⟩ := F.ex
  have many : ∀ vs H Q E, spS K ps.length (runF n b) vs H Q E → vs.length = ps.length := fun vs H Q E h => by
    obtain ⟨G, cs, hl, R, _⟩ := h
    have h1 := R.len
    rw [List.length_map] at h1
    omega
  refine ⟨many, fun A out s H ar us vs Q E gd rm e0 bd rel want => ?_⟩
  have inK : K.In s.heap := e0.mod.kin.keeps fun a ob z => (e0.bs a ob z).1
  have free : s.heap.NoLimit := e0.mod.nolimit.keeps fun a ob z => (e0.bs a ob z).1
  have kinds : ∀ y ∈ ps.zip us, (defScope st).names.lookup y.1 = some .local ∨ ((defScope st).names.lookup y.1 = some .cell ∧ ((cellsFrom (s.heap.objs.size + 1) (defScope st).names []).lookup y.1).isSome = true) := by
    rintro ⟨m, v⟩ hy
    rcases S.par m (List.of_mem_zip hy).1 with q | q
    · exact .inl q
    · exact .inr ⟨q, PySem.W.cellsFrom_some _ _ _ (.inl q)⟩
  refine codeAny_call_function rm.depth (inK _ _ look) rfl S.co S.gen rfl (PySem.W.codeRec_of inK code) (bd _ _ _ _ ?_)
  refine wpAny_newFunctionEnv_cells S.kind kinds fun env he s1 at1 => ?_
  subst he
  refine ⟨free.keeps at1.toInCall.keep, codeAny_func ?_⟩
  have I : Inv (cxOf CX0 P w K mg base N qual (defScope st) f c7 A out s H E) [] (L2.start N vs) H s1 := inv_start S rm.hd e0 (many _ _ _ _ want) rel at1
  have done_ : ∀ {σ' : L2.St} {H' : Hp} {v : V} {u : Value} {s' : Shared}, Inv (cxOf CX0 P w K mg base N qual (defScope st) f c7 A out s H E) [] σ' H' s' → RelV v u → Q v H' → CE out P w H s Q u s' := by
    intro σ' H' v u s' J rv q
    exact ⟨v, H', J.os, J.bare, J.base, J.hok, rv, q⟩
  refine wpAny_mono ((PSs.nox (hbody c7 A out s H E (deeper_guards gd) (rm.deeper _))).run [] s1 (L2.start N vs) H _ I (fn_core hn want)) ?_ fun er s' z => z
  intro fl s' z
  cases fl with
  | ret u =>
    obtain ⟨v, _, H', J, rv, q⟩ := z
    exact done_ J rv q
  | next =>
    obtain ⟨_, H', J, q⟩ := z
    exact done_ (v := V.non) (u := Value.none) J rfl q
  | brk =>
    obtain ⟨_, _, _, q⟩ := z
    cases q
  | cont =>
    obtain ⟨_, _, _, q⟩ := z
    cases q
end
section
variable {X : Cx} {CX : CXT} {k : Nat} {f : Addr} {fd : FuncData} {ps : List Str} {sp : Sp} {E : XK} {x : Str} {p pos : Pos} {e : Expr} {es : List Expr} {t : TA}
theorem pe_callG (F : FnG X.prog X.w X.K X.mg X.base CX k f fd ps sp) (hgd : X.A.guards = some []) (hr : Room k X.A) (hg : Gl X x) (hm : X.mg x = some (.ref f)) (hk : PySem.W.keepIn X.K (.ref f) = true) (hb : Binds X.K fd ps []) (hx : Passes CX X E)
    (ha : PA X (e :: es) t) (hdb : (x == ("__debug__" : Str)) = false := by decide) (he : starEach (e :: es) X.env = (false, eval e X.env) :: starEach es X.env := by rfl) (hpl : (backTo pos (starEach es X.env)).any (·.1) = false := by rfl) :
    PE X (.Call (.Name x p) (e :: es) [] pos) (tCall sp [] E t) := by
  constructor
  intro pins s σ H Q I h
  refine wpAny_Call_Name_kw (ld_glob I hg hm ?_ hdb)
  refine PySem.W.callWith_K (h₀ := X.base) I.ok.mod.kin hk (thn (ha.run pos pins s σ H _ I h) fun us s1 hz => ?_) he hpl
  obtain ⟨vs, H1, I1, r, q⟩ := hz
  refine ⟨I1.kIn, ?_⟩
  rw [List.append_nil] at q
  have hl : us.length = ps.length := r.length.symm.trans (F.many _ _ _ _ q)
  have hbd := hb s1 us I1.kIn (by rw [List.append_nil]; exact hl)
  rw [List.append_nil] at hbd
  refine wpAny_call (codeAny_mono (F.goes X.A X.stack s1 H1 ⟨us, []⟩ us vs Q E hgd hr I1.env0 hbd r q) ?_)
  rintro (er | fl) s' hq
  · exact hx pins σ H1 s1 er s' I1 hq
  · cases fl with
    | ret u => exact I1.after hq
    | next => cases hq
    | brk => cases hq
    | cont => cases hq
end
section
variable {X : Cx} {k n : Nat} {f : Addr} {fd : FuncData} {ps : List Str} {x : Str} {p pos : Pos} {e : Expr} {es : List Expr} {ms : MA} {F : FN}
theorem se_calG (O : FnG X.prog X.w X.K X.mg X.base CX0 k f fd ps (spS X.K n F)) (hgd : X.A.guards = some []) (hr : Room k X.A) (hg : Gl X x) (hm : X.mg x = some (.ref f)) (hk : PySem.W.keepIn X.K (.ref f) = true) (hb : Binds X.K fd ps [])
    (ha : SA X (e :: es) ms) (hn : ∀ cs rs cs', ms cs = some (rs, cs') → rs.length = n) (hdb : (x == ("__debug__" : Str)) = false := by decide) (he : starEach (e :: es) X.env = (false, eval e X.env) :: starEach es X.env := by rfl) (hpl : (backTo pos (starEach es X.env)).any (·.1) = false := by rfl) :
    SE X (.Call (.Name x p) (e :: es) [] pos) (mCal F ms) := PE.imp (pe_callG O hgd hr hg hm hk hb pass0 ha hdb he hpl) fun _ _ _ h => imp_cal hn h
end
section
variable {X : Cx} {elt tg : Expr} {ifs : List Expr} {scope : Scope} {own : List (Str × Nat)} {vs : List Nat} {pos spos py px : Pos} {g : MG} {tt : MT} {te : ME} {i : Nat} {x : Str}
theorem ss_setLcNF (hid : Bool) {j : Nat} {y : Str} (hc : X.calm = true) (hN : X.N.Nodup) (hx : X.N[i]? = some x) (hvis : Vis X.env.scope x) (hy : X.N[j]? = some y) (hyl : X.env.scope.names.lookup y = some .local)
    (hsw : swapsWith (.ListComp elt [⟨tg, .Name x px, ifs, 0⟩] scope pos) (some (.Name y py)) spos.line X.env = pure true) (ok : BlkOk X.N X.env.scope scope own) (hv : ∀ i ∈ vs, i ∈ own.map (·.2))
    (hg : ∀ (s : Shared) (H : Hp) (C : Addr) (cl : List (Str × Addr)) (fp : List Addr), SG (X.blk s H scope (compEnvC scope cl C X.env) fp) tg vs g) (ht : ∀ (s : Shared) (H : Hp) (C : Addr) (cl : List (Str × Addr)) (fp : List Addr), STs (X.blk s H scope (compEnvC scope cl C X.env) fp) ifs tt)
    (he : ∀ (s : Shared) (H : Hp) (C : Addr) (cl : List (Str × Addr)) (fp : List Addr), SE (X.blk s H scope (compEnvC scope cl C X.env) fp) elt te) (hd : (x == ("__debug__" : Str)) = false := by decide) (hcd : (x == ("__classdict__" : Str)) = false := by decide) (hs : ∀ z, foldedSetIterable (.Name x px) X.env z = pure z := by intro _; rfl) :
    SS X (.Assign [.Name y py] (.ListComp elt [⟨tg, .Name x px, ifs, 0⟩] scope pos) spos) (sSet j (mFz (mLcN hid i (own.map (·.2)) g tt te))) :=
  PS.imp (PS.or (PS.or (ps_lock (ps_setLc hc hN hy hyl hsw (pi_keys (pe_var hx hvis hd hcd)) ok hg ht he hs)) (ps_setLc hc hN hy hyl hsw (pi_keys (pe_var hx hvis hd hcd)) ok hg ht he hs)) (PS.or (ps_setLc hc hN hy hyl hsw (pi_list (pe_var hx hvis hd hcd)) ok hg ht he hs) (ps_setLc hc hN hy hyl hsw (si_seq (sv i hx hvis hd hcd)) ok hg ht he hs))) fun D σ H h => by
    obtain h1 : tAsg (tS X.K (mFz (mLcN hid i (own.map (·.2)) g tt te))) (gName j) D σ H := imp_sset h
    rcases imp_lcN hv (imp_fz h1) with (h | h) | (h | h)
    · exact .inl (.inl h)
    · exact .inl (.inr h)
    · exact .inr (.inl h)
    · exact .inr (.inr h)
end
section
variable {X : Cx} {elt tg iter : Expr} {ifs : List Expr} {scope : Scope} {own : List (Str × Nat)} {vs : List Nat} {pos spos py : Pos} {mi : MI} {g : MG} {tt : MT} {te : ME}
theorem ss_setLcF {i : Nat} {y : Str} (hc : X.calm = true) (hN : X.N.Nodup) (hy : X.N[i]? = some y) (hyl : X.env.scope.names.lookup y = some .local)
    (hsw : swapsWith (.ListComp elt [⟨tg, iter, ifs, 0⟩] scope pos) (some (.Name y py)) spos.line X.env = pure true) (ok : BlkOk X.N X.env.scope scope own) (hv : ∀ i ∈ vs, i ∈ own.map (·.2)) (hi : SI X tg iter mi)
    (hg : ∀ (s : Shared) (H : Hp) (C : Addr) (cl : List (Str × Addr)) (fp : List Addr), SG (X.blk s H scope (compEnvC scope cl C X.env) fp) tg vs g) (ht : ∀ (s : Shared) (H : Hp) (C : Addr) (cl : List (Str × Addr)) (fp : List Addr), STs (X.blk s H scope (compEnvC scope cl C X.env) fp) ifs tt)
    (he : ∀ (s : Shared) (H : Hp) (C : Addr) (cl : List (Str × Addr)) (fp : List Addr), SE (X.blk s H scope (compEnvC scope cl C X.env) fp) elt te) (hs : ∀ x, foldedSetIterable iter X.env x = pure x := by intro _; rfl) :
    SS X (.Assign [.Name y py] (.ListComp elt [⟨tg, iter, ifs, 0⟩] scope pos) spos) (sSet i (mFz (mLc (own.map (·.2)) mi g tt te))) := PS.imp (ps_setLc hc hN hy hyl hsw hi ok hg ht he hs) fun D σ H h => by
  obtain h1 : tAsg (tS X.K (mFz (mLc (own.map (·.2)) mi g tt te))) (gName i) D σ H := imp_sset h
  exact imp_lc hv (imp_fz h1)
end
/-! ### the law's own call -/
theorem top_call {P : Program} {w : World} {K : Fg} {mg mb : Str → Option Value} {k : Nat} {fa a : Addr} {fd : FuncData} {x : Str} {F : FN} {s : Shared} {us : List Value} {ns : List Int}
    (inK : K.In s.heap) (gl : s.heap.Ns mainGlobals mg) (bu : s.heap.Ns builtinsNs mb) (bo : ∀ x : Str, x ≠ "__name__" → mb x = bootBuiltins x) (free : s.heap.NoLimit) (still : s.gens = #[])
    (at_ : s.heap.get? a = some { cls := .type "list", data := .seq us.toArray }) (are : IntsAre us ns) (short : ns.length ≤ sizeLine) (rm : Room k callerA) (noL : (K.all fun p => !(p.2.cls == .type "list")) = true)
    (G : ∀ base : Heap, K.In base → base.Ns mainGlobals mg → FnG P w K mg base CX0 k fa fd [x] (spS K 1 F)) (bd : ∀ (s : Shared) (u : Value), BindsTo s fd ⟨[u], []⟩ [(x, u)])
    (yes : ∃ cs', F [.fz (.list (ns.map PyData.int))] = some (.fz (.bool true), cs')) :
    codeAny (model P w) callerA (.call (.ref fa) ⟨[.ref a], []⟩) (fun r s' => r = .ok (.ret (.bool true)) ∧ OldK s.heap s'.heap ∧ s'.os = s.os ∧ AllBare s'.gens) s := by
  have rel := vals_ints are
  have notK : K.lookup a = none := by
    cases q : K.lookup a with
    | none => rfl
    | some o =>
      have := inK a o q
      rw [at_] at this
      cases this
      exact absurd rfl (no_list noL q)
  obtain ⟨H, hH⟩ : ∃ H : Hp, H = fun b => if b = a then some (.frz { cls := .type "list", data := .seq us.toArray } (.lst (ns.map V.int))) else none := ⟨_, rfl⟩
  have Ha : H a = some (.frz { cls := .type "list", data := .seq us.toArray } (.lst (ns.map V.int))) := by rw [hH]; exact if_pos rfl
  have Hn : ∀ {b : Addr}, b ≠ a → H b = none := fun {b} n => by rw [hH]; exact if_neg n
  have okH : HOk P w H s.heap := fun b u z => by
    by_cases e : b = a
    · subst e
      rw [Ha] at z; cases z
      exact ⟨at_, by rw [List.length_map]; exact short, us, _, rel, at_⟩
    · rw [Hn e] at z; cases z
  have under : ∀ {b : Addr} {o : Obj}, s.heap.get? b = some o → b ≠ a → (hidT s.heap H).get? b = some o := fun e n => hidT_get e (Hn n)
  have nsOf : ∀ {b : Addr} {m : Str → Option Value}, s.heap.Ns b m → (hidT s.heap H).Ns b m := by
    rintro b m ⟨o, es, ep, e, d, r⟩
    refine ⟨o, es, ep, under e ?_, d, r⟩
    rintro rfl
    rw [at_] at e
    cases e
    have d' : Data.seq us.toArray _ = Data.dict es ep := d
    cases d'
  have inB : K.In (hidT s.heap H) := fun b o e => under (inK b o e) (by rintro rfl; rw [notK] at e; cases e)
  obtain ⟨mc, fr1, fr2⟩ := free
  have env : Env0 P w K mg (hidT s.heap H) callerA [] s H :=
    ⟨rfl, ⟨inB, nsOf gl, ⟨mb, nsOf bu, bo⟩, ⟨mc, nsOf fr1, fr2⟩⟩, fun b o e => of_hidT e, Nat.le_of_eq (hidT_size _ _), trivial, fun b hb => (nomatch hb), okH, .of_eq still⟩
  have want : spS K 1 F [.ref a] H (fun v _ => v = .bl true) fun _ _ _ => False := law_sp noL (.inl (.inr ⟨_, Ha⟩)) yes
  refine codeAny_mono ((G _ inB (nsOf gl)).goes callerA [] s H ⟨[.ref a], []⟩ [.ref a] [.ref a] _ _ rfl rm env (bd s (.ref a)) (.cons rfl .nil) want) ?_
  rintro (er | fl) s' z
  · exact z.elim
  · cases fl with
    | next => cases z
    | brk => cases z
    | cont => cases z
    | ret u =>
      obtain ⟨v, H', os, bare, un, okk, rv, q⟩ := z
      have q' : v = .bl true := q
      subst q'
      obtain rfl : u = Value.bool true := rv
      refine ⟨rfl, OldK.of_keep fun b o e => ?_, os, bare⟩
      by_cases n : b = a
      · subst n
        have z2 := un.frzs b _ _ Ha
        obtain ⟨e1, _⟩ := okk b _ z2
        rw [at_] at e
        cases e
        exact e1
      · exact un.keep b o e (Hn n) (by intro z; cases z) (by simp)
/-- the row's goal from a def that wants to know that no repr is under way -/
theorem top_of {l : PySem.W.OpenLaw} {n k : Nat} {q : Program} {loose : List Str} {XP : (Str → Option Value) → Heap → Prop} {YP : World → Heap → Prop} {d : DefRec} {K : Params → Fg} {x : Str} {F : FN}
    (h1 : l.most = some n) (h2 : n ≤ sizeLine) (h3 : d.params.defaults = []) (rm : Room k callerA) (noL : ∀ p, ((K p).all fun p => !(p.2.cls == .type "list")) = true) (hY : ∀ (w : World) (h : Heap), YP w h → (K w.params).In h)
    (G : ∀ (w : World) (mg : Str → Option Value) (fa : Addr) (h : Heap), (K w.params).In h → h.Ns mainGlobals mg → mg d.name = some (.ref fa) →
      ∃ fd : FuncData, (∀ (s : Shared) (u : Value), BindsTo s fd ⟨[u], []⟩ [(x, u)]) ∧ ∀ base : Heap, (K w.params).In base → base.Ns mainGlobals mg → FnG l.prog w (K w.params) mg base CX0 k fa fd [x] (spS (K w.params) 1 F))
    (yes : ∀ ns : List Int, ns.length ≤ n → ∃ cs', F [.fz (.list (ns.map PyData.int))] = some (.fz (.bool true), cs')) :
    PySem.W.WalkO q loose XP YP l.row.toRowW d [] (fun f vs => PySem.call f vs) := by
  refine Att.attach_call h1 h3 ?_
  intro w s0 s mg mb fa o pm cd doc a us ns gr Y ho hd hc hm hobj hints hlen hg
  have inK := hY w _ Y
  obtain ⟨fd, hb, hF⟩ := G w mg fa _ inK gr.T.g hm
  exact top_call inK gr.T.g gr.T.b gr.T.builtins gr.T.nolimit hg hobj hints (Nat.le_trans hlen h2) rm (noL _) hF hb (yes ns hlen)
/-! ### repr -/
def reprT : List T → Option Out
  | [t] => if (okD 18 t && t.showable && decide (t.shown.length ≤ sizeLine)) = true then some (.fz (.str t.shown)) else none
  | _ => none
section
variable {X : Cx}
mutual
theorem noDict_of : ∀ (t : T) (n : Nat), okD n t = true → t.hasDict = false
  | .none, _, _ => rfl
  | .bool _, _, _ => rfl
  | .int _, _, _ => rfl
  | .str _, _, _ => rfl
  | .list xs, 0, h => by simp [okD] at h
  | .tuple xs, 0, h => by simp [okD] at h
  | .list xs, n + 1, h => by
    have := noDict_all xs n (by simpa [okD] using h)
    simpa [PyData.hasDict] using this
  | .tuple xs, n + 1, h => by
    have := noDict_all xs n (by simpa [okD] using h)
    simpa [PyData.hasDict] using this
  | .dict _, n, h => by cases n <;> simp [okD] at h
theorem noDict_all : ∀ (ts : List T) (n : Nat), okA n ts = true → PyData.hasDictAll ts = false
  | [], _, _ => rfl
  | t :: ts, n, h => by
    rw [okA, Bool.and_eq_true] at h
    simp [PyData.hasDictAll, noDict_of t n h.1, noDict_all ts n h.2]
end
theorem c_repr (hgd : X.A.guards = some []) (hu : X.A.units + 64 < cLine) : CallR X (.builtin "repr") (rT X.K reprT) := by
  intro pins s σ H xs us Q I r ⟨G, ts, o, l, ps, e, k⟩
  unfold reprT at e
  split at e
  · rename_i t
    split at e
    · rename_i h
      cases e
      rw [Bool.and_eq_true, Bool.and_eq_true, decide_eq_true_eq] at h
      obtain ⟨⟨h1, h2⟩, h3⟩ := h
      obtain ⟨v, rfl, p⟩ := ps.one
      obtain ⟨u, rfl, rv⟩ := vals1 r
      have q := k G H (.str t.shown) (.refl l) (.str _)
      have dp := (p.rel l).dp 18 h1
      obtain ⟨as, rd⟩ := Dp.reads I _ _ _ dp rv
      have fin : ∀ h' (u' tk : Tok), (∀ b o, s.heap.get? b = some o → h'.get? b = some o) → EP X pins σ Q (.str t.shown u') { s with heap := h', toks := tk } := fun h' u' tk hk => ⟨.str t.shown, H, I.kept (t' := tk) hk, ⟨u', rfl⟩, q⟩
      have hd := (okD_lay t 18 h1).2
      have nd : (PyData.hasDict t = true → sysModules ∉ as) := fun z => by rw [noDict_of t 18 h1] at z; cases z
      have big : (∃ a, u = .ref a) → wpAny (model X.prog X.w) X.A (call (.builtin "repr") [u]) (EP X pins σ Q) X.xe s := by
        rintro ⟨a, rfl⟩
        exact repr_of_reads' rd h2 nd hgd (by omega) (fun _ _ e => e) (fun h' u' tk hk => fin h' u' tk hk) h3
      have tk1 : EP X pins σ Q (.str t.shown s.toks) { s with toks := s.toks + 1 } := ⟨.str t.shown, H, I.tok _, ⟨_, rfl⟩, q⟩
      cases t with
      | none =>
        cases rd
        refine PySem.P.repr_of_none ?_
        simpa only [PyData.shown] using tk1
      | bool b =>
        cases rd
        refine PySem.P.repr_of_bool ?_
        simpa only [PyData.shown] using tk1
      | int i =>
        cases rd
        refine PySem.P.repr_of_int (by simpa [PyData.showable] using h2) ?_
        simpa only [PyData.shown] using tk1
      | str x =>
        cases rd
        refine PySem.P.repr_of_str ?_ (by simpa only [PyData.shown] using h3)
        simpa only [PyData.shown] using tk1
      | list xs => exact big (by cases rd; exact ⟨_, rfl⟩)
      | tuple xs => exact big (by cases rd; exact ⟨_, rfl⟩)
      | dict kvs => simp [okD] at h1
    · cases e
  · cases e
end
end TL
namespace TL
open PySem PySem.Spec L2

/-! ### the plain side: words for what the mirrors give -/
def Wp {α : Type} (o : Option (α × Cs)) (Q : α → Cs → Prop) : Prop := ∃ a c, o = some (a, c) ∧ Q a c
theorem wp_some {α : Type} {a : α} {c : Cs} {Q : α → Cs → Prop} : Wp (some (a, c)) Q ↔ Q a c := ⟨fun ⟨_, _, e, q⟩ => by cases e; exact q, fun q => ⟨a, c, rfl, q⟩⟩
theorem wp_of {α : Type} {o : Option (α × Cs)} {a : α} {c : Cs} {Q : α → Cs → Prop} (e : o = some (a, c)) (q : Q a c) : Wp o Q := ⟨a, c, e, q⟩
theorem Wp.mono {α : Type} {o : Option (α × Cs)} {Q Q' : α → Cs → Prop} (h : Wp o Q) (k : ∀ a c, Q a c → Q' a c) : Wp o Q' := by
  obtain ⟨a, c, e, q⟩ := h
  exact ⟨a, c, e, k a c q⟩
def Thn (n : MS) (Q : Fl → Cs → Prop) : Fl → Cs → Prop := fun fl c => match fl with
  | .nx => Wp (n c) Q
  | .bk => Q .bk c
  | .ct => Q .ct c
  | .rt o => Q (.rt o) c
theorem wp_seq {m n : MS} {cs : Cs} {Q : Fl → Cs → Prop} (h : Wp (m cs) (Thn n Q)) : Wp (sSeq m n cs) Q := by
  obtain ⟨fl, c, e, q⟩ := h
  unfold sSeq
  rw [e]
  cases fl with
  | nx => exact q
  | bk => exact ⟨_, _, rfl, q⟩
  | ct => exact ⟨_, _, rfl, q⟩
  | rt o => exact ⟨_, _, rfl, q⟩
theorem seq_nx {m n : MS} {cs c1 : Cs} (e : m cs = some (.nx, c1)) : sSeq m n cs = n c1 := by unfold sSeq; rw [e]
theorem seq_rt {m n : MS} {cs c1 : Cs} {o : Out} (e : m cs = some (.rt o, c1)) : sSeq m n cs = some (.rt o, c1) := by unfold sSeq; rw [e]
theorem run_of {k : Nat} {b : MS} {cs : Cs} {R : Out → Cs → Prop} (h : Wp (b (cs ++ List.replicate k .un)) fun fl c => match fl with
    | .rt o => R o c
    | .nx => R (.fz .none) c
    | _ => False) : Wp (runF k b cs) R := by
  obtain ⟨fl, c, e, q⟩ := h
  unfold runF
  rw [e]
  cases fl with
  | nx => exact ⟨_, _, rfl, q⟩
  | bk => exact q.elim
  | ct => exact q.elim
  | rt o => exact ⟨_, _, rfl, q⟩
/-! loops -/
def Lp (Q : Fl → Cs → Prop) (I : Cs → Prop) : Fl → Cs → Prop := fun fl c => match fl with
  | .nx => I c
  | .ct => I c
  | .bk => Q .nx c
  | .rt o => Q (.rt o) c
theorem forL_ok {g : MG} {b : MS} {Q : Fl → Cs → Prop} (I : Nat → Cs → Prop) : ∀ (ts : List T) (n : Nat) (cs : Cs), I n cs →
    (∀ (k : Nat) (t : T) (c : Cs), ts[k]? = some t → I (n + k) c → ∃ c1, g t c = some c1 ∧ Wp (b c1) (Lp Q (I (n + k + 1)))) → (∀ c, I (n + ts.length) c → Q .nx c) → Wp (sForL g b ts cs) Q
  | [], n, cs, i, _, e => ⟨_, _, rfl, e cs i⟩
  | t :: ts, n, cs, i, h, e => by
    obtain ⟨c1, e1, fl, c2, e2, q⟩ := h 0 t cs rfl i
    have rest : ∀ c2, I (n + 1) c2 → Wp (sForL g b ts c2) Q := fun c2 i2 => forL_ok I ts (n + 1) c2 i2
      (fun k t' c et i' => by
        have := h (k + 1) t' c (by simpa using et) (by rw [show n + (k + 1) = n + 1 + k by omega]; exact i')
        rw [show n + (k + 1) + 1 = n + 1 + k + 1 by omega] at this
        exact this)
      (fun c i' => e c (by rw [List.length_cons, show n + (ts.length + 1) = n + 1 + ts.length by omega]; exact i'))
    simp only [sForL, e1, e2]
    cases fl with
    | nx => exact rest c2 q
    | ct => exact rest c2 q
    | bk => exact ⟨_, _, rfl, q⟩
    | rt o => exact ⟨_, _, rfl, q⟩
theorem for_ok {mi : MI} {g : MG} {b : MS} {cs c0 : Cs} {ts : List T} {Q : Fl → Cs → Prop} (I : Nat → Cs → Prop) (e : mi cs = some (ts, c0)) (i0 : I 0 c0)
    (h : ∀ (k : Nat) (t : T) (c : Cs), ts[k]? = some t → I k c → ∃ c1, g t c = some c1 ∧ Wp (b c1) (Lp Q (I (k + 1)))) (he : ∀ c, I ts.length c → Q .nx c) : Wp (sFor mi g b cs) Q := by
  unfold sFor
  rw [e]
  exact forL_ok I ts 0 c0 i0 (fun k t c et i => by rw [Nat.zero_add] at i ⊢; exact h k t c et i) (fun c i => he c (by rw [Nat.zero_add] at i; exact i))
theorem while_ok {t : MT} {b : MS} {Q : Fl → Cs → Prop} (I : Nat → Cs → Prop)
    (h : ∀ k c, I k c → (∃ c1, t c = some (false, c1) ∧ Q .nx c1) ∨ ∃ c1, t c = some (true, c1) ∧ Wp (b c1) (Lp Q fun c2 => ∃ k', k' < k ∧ I k' c2)) :
    ∀ (n k : Nat) (cs : Cs), k < n → I k cs → Wp (sWhile n t b cs) Q
  | 0, k, cs, hk, _ => by omega
  | n + 1, k, cs, hk, i => by
    unfold sWhile
    rcases h k cs i with ⟨c1, e, q⟩ | ⟨c1, e, fl, c2, e2, q⟩
    · rw [e]
      exact ⟨_, _, rfl, q⟩
    · simp only [e, e2]
      cases fl with
      | nx => obtain ⟨k', hk', i'⟩ := q; exact while_ok I h n k' c2 (by omega) i'
      | ct => obtain ⟨k', hk', i'⟩ := q; exact while_ok I h n k' c2 (by omega) i'
      | bk => exact ⟨_, _, rfl, q⟩
      | rt o => exact ⟨_, _, rfl, q⟩
theorem rng_len {lo : Int} {n : Nat} : (rngT lo n).length = n := by simp [rngT]
theorem rng_get {lo : Int} {n k : Nat} {t : T} (e : (rngT lo n)[k]? = some t) : k < n ∧ t = .int (lo + k) := by
  have hk := lt_of_get e
  rw [rng_len] at hk
  rw [rngT, List.getElem?_map, List.getElem?_range hk] at e
  exact ⟨hk, (Option.some.inj e).symm⟩
/-! comprehensions whose parts leave the slots alone -/
theorem lcL_ok {own : List Nat} {g : MG} {tt : MT} {te : ME} {p : T → Bool} {f : T → T} {cw : Cs} : ∀ (ts : List T),
    (∀ t, t ∈ ts → ∃ c1, g t cw = some c1 ∧ wipeC c1 own = cw ∧ tt c1 = some (p t, c1) ∧ (p t = true → ∃ r, te c1 = some (r, c1) ∧ frz r c1 = some (f t, c1))) →
    mLcL own g tt te ts cw = some ((ts.filter p).map f, cw)
  | [], _ => rfl
  | t :: ts, h => by
    obtain ⟨c1, e1, w, e2, e3⟩ := h t (List.mem_cons_self)
    have ih := lcL_ok ts fun u m => h u (List.mem_cons_of_mem _ m)
    unfold mLcL
    simp only [e1, e2]
    cases hp : p t with
    | true =>
      obtain ⟨r, e4, e5⟩ := e3 hp
      simp only [e4, e5, w, ih, List.filter_cons, hp, if_true, List.map_cons]
    | false =>
      simp only [w, ih, List.filter_cons, hp]
      rfl
theorem lc_ok {own : List Nat} {mi : MI} {g : MG} {tt : MT} {te : ME} {p : T → Bool} {f : T → T} {cs c0 : Cs} {ts : List T} (e : mi cs = some (ts, c0)) (hl : ts.length ≤ sizeLine)
    (h : ∀ t, t ∈ ts → ∃ c1, g t (wipeC c0 own) = some c1 ∧ wipeC c1 own = wipeC c0 own ∧ tt c1 = some (p t, c1) ∧ (p t = true → ∃ r, te c1 = some (r, c1) ∧ frz r c1 = some (f t, c1)))
    (hr : restC c0 own (wipeC c0 own) = c0) : mLc own mi g tt te cs = some (.nw (.list ((ts.filter p).map f)), c0) := by
  unfold mLc
  rw [e]
  simp only [hl, if_true]
  rw [lcL_ok ts h]
  simp only [hr]
/-- the parts change the slots by the turn -/
theorem lcL_wp {own : List Nat} {g : MG} {te : ME} (I : Nat → List T → Cs → Prop) : ∀ (ts : List T) (n : Nat) (ys : List T) (cs : Cs), I n ys cs →
    (∀ (k : Nat) (t : T) (ys : List T) (c : Cs), ts[k]? = some t → I (n + k) ys c → ∃ c1, g t c = some c1 ∧ Wp (te c1) fun r c2 => ∃ y c3, frz r c2 = some (y, c3) ∧ I (n + k + 1) (ys ++ [y]) (wipeC c3 own)) →
    ∃ zs c, mLcL own g mtYes te ts cs = some (zs, c) ∧ I (n + ts.length) (ys ++ zs) c
  | [], n, ys, cs, i, _ => ⟨[], cs, rfl, by rw [List.append_nil]; exact i⟩
  | t :: ts, n, ys, cs, i, h => by
    obtain ⟨c1, e1, r, c2, e2, y, c3, e3, i2⟩ := h 0 t ys cs rfl i
    obtain ⟨zs, c, e4, i3⟩ := lcL_wp I ts (n + 1) (ys ++ [y]) _ i2 fun k t' ys' c et i' => by
      have := h (k + 1) t' ys' c (by simpa using et) (by rw [show n + (k + 1) = n + 1 + k by omega]; exact i')
      rw [show n + (k + 1) + 1 = n + 1 + k + 1 by omega] at this
      exact this
    refine ⟨y :: zs, c, ?_, ?_⟩
    · unfold mLcL
      simp only [e1, mtYes, e2, e3]
      rw [e4]
    · rw [List.length_cons, show n + (ts.length + 1) = n + 1 + ts.length by omega]
      simpa using i3
theorem lc_wp {own : List Nat} {mi : MI} {g : MG} {te : ME} {cs c0 : Cs} {ts : List T} {Q : Rs → Cs → Prop} (I : Nat → List T → Cs → Prop) (e : mi cs = some (ts, c0)) (hl : ts.length ≤ sizeLine) (i0 : I 0 [] (wipeC c0 own))
    (h : ∀ (k : Nat) (t : T) (ys : List T) (c : Cs), ts[k]? = some t → I k ys c → ∃ c1, g t c = some c1 ∧ Wp (te c1) fun r c2 => ∃ y c3, frz r c2 = some (y, c3) ∧ I (k + 1) (ys ++ [y]) (wipeC c3 own))
    (he : ∀ ys c, I ts.length ys c → Q (.nw (.list ys)) (restC c0 own c)) : Wp (mLc own mi g mtYes te cs) Q := by
  obtain ⟨zs, c, e2, i2⟩ := lcL_wp I ts 0 [] _ i0 fun k t ys c et i => by rw [Nat.zero_add] at i ⊢; exact h k t ys c et i
  rw [Nat.zero_add] at i2
  refine ⟨.nw (.list zs), restC c0 own c, ?_, he _ _ i2⟩
  unfold mLc
  rw [e]
  simp only [hl, if_true]
  rw [e2]
/-! rows of whole numbers -/
theorem intsOf_map : ∀ ns : List Int, intsOf (ns.map PyData.int) = some ns
  | [] => rfl
  | n :: r => by
    simp only [List.map_cons, intsOf, intsOf_map r]
theorem ixN_nat {n k : Nat} (h : k < n) : ixN n (k : Int) = some k := by
  unfold ixN
  rw [if_pos (by omega), if_pos (by omega), Int.toNat_natCast]
theorem atT_nat {ts : List T} {k : Nat} (h : k < ts.length) : atT ts (k : Int) = ts[k]? := by
  unfold atT
  rw [ixN_nat h]
theorem atT_last {ts : List T} (h : 0 < ts.length) : atT ts (-1) = ts[ts.length - 1]? := by
  unfold atT ixN
  rw [if_neg (by omega), if_pos (by omega)]
  simp only
  congr 1
  omega
theorem okA_ints (k : Nat) : ∀ ns : List Int, okA k (ns.map PyData.int) = true
  | [] => by simp [okA]
  | n :: r => by simp [okA, okD, okA_ints k r]
theorem insI_length (x : Int) (l : List Int) : (insI x l).length = l.length + 1 := by
  rw [(insI_perm x l).length_eq, List.length_cons]
/-! the worker's row of drawn numbers -/
def wT (ds : List Int) (n : Nat) : T := .dict [(.str "draws", .list (ds.map .int)), (.str "at", .int n)]
def nxt (ds : List Int) (n : Nat) (m : Int) : Int := if h : n < ds.length then ds[n] % m else 0
theorem nxt_le (ds : List Int) (n : Nat) {m : Int} (h : 0 < m) : 0 ≤ nxt ds n m := by
  unfold nxt
  split
  · exact Int.emod_nonneg _ (by omega)
  · omega
theorem nxt_lt (ds : List Int) (n : Nat) {m : Int} (h : 0 < m) : nxt ds n m < m := by
  unfold nxt
  split
  · exact Int.emod_lt_of_pos _ h
  · omega
def tNext : MS :=
  (sSeq (sAugIx 0 getT augT putT (mC (.str "at")) (mC (.int 1)))
  (sSeq (sIf (asB (mOp gtI (mOp ixT (mV 0) (mC (.str "at"))) (mCall lenT (mCons (mOp ixT (mV 0) (mC (.str "draws"))) mNil)))) (sRet (mC (.int 0))) sNil)
  (sRet (mOp modT (mCall toIntT (mCons (mOp ixT (mOp ixT (mV 0) (mC (.str "draws"))) (mOp subT (mOp ixT (mV 0) (mC (.str "at"))) (mC (.int 1)))) mNil)) (mV 1)))))
theorem get_at (ds : List Int) (n : Nat) : getT (wT ds n) (.str "at") = some (.int n) := rfl
theorem put_at (ds : List Int) (n : Nat) (z : Int) : putT (wT ds n) (.str "at") (.int z) = some (.dict [(.str "draws", .list (ds.map .int)), (.str "at", .int z)]) := rfl
theorem ix_at (ds : List Int) (n : Nat) : ixT (wT ds n) (.str "at") = some (.fz (.int n)) := rfl
theorem ix_draws (ds : List Int) (n : Nat) : ixT (wT ds n) (.str "draws") = some (.fz (.list (ds.map .int))) := rfl
theorem next_run (ds : List Int) (n : Nat) {m : Int} (hm : 0 < m) : runF 0 tNext [.bo (wT ds n), .fz (.int m)] = some (.fz (.int (nxt ds n m)), [.bo (wT ds (n + 1)), .fz (.int m)]) := by
  have e1 : sAugIx 0 getT augT putT (mC (.str "at")) (mC (.int 1)) [.bo (wT ds n), .fz (.int m)] = some (.nx, [.bo (wT ds (n + 1)), .fz (.int m)]) := by
    have := put_at ds n ((n : Int) + 1)
    simp only [sAugIx, owOf, mFz, mC, frz, List.getElem?_cons_zero, get_at, pk, augT, this, reC]
    rfl
  unfold runF
  rw [List.replicate_zero, List.append_nil]
  unfold tNext
  rw [seq_nx e1]
  unfold nxt
  by_cases h : n < ds.length
  · have e2 : sIf (asB (mOp gtI (mOp ixT (mV 0) (mC (.str "at"))) (mCall lenT (mCons (mOp ixT (mV 0) (mC (.str "draws"))) mNil)))) (sRet (mC (.int 0))) sNil [.bo (wT ds (n + 1)), .fz (.int m)] = some (.nx, [.bo (wT ds (n + 1)), .fz (.int m)]) := by
      simp only [sIf, asB, mOp, mV, mC, mCall, mCons, mNil, List.getElem?_cons_zero, pk, pks, ix_at, ix_draws, Out.rs, lenT, gtI, intF, List.length_map, if_true]
      rw [decide_eq_false (by omega)]
      rfl
    rw [seq_nx e2, dif_pos h]
    have e3 : atT (ds.map PyData.int) ((n : Int) + 1 - 1) = some (.int ds[n]) := by
      rw [show (n : Int) + 1 - 1 = (n : Int) by omega, atT_nat (by rw [List.length_map]; exact h), List.getElem?_map, List.getElem?_eq_getElem h]
      rfl
    have e4 : ixT (.list (ds.map PyData.int)) (.int ((n : Int) + 1 - 1)) = some (.fz (.int ds[n])) := by
      show (atT (ds.map PyData.int) ((n : Int) + 1 - 1)).map Out.fz = _
      rw [e3]; rfl
    simp only [sRet, mOp, mV, mC, mCall, mCons, mNil, List.getElem?_cons_zero, List.getElem?_cons_succ, pk, pks, ix_at, ix_draws, Out.rs, subT, intF, if_true, Int.natCast_add, Int.cast_ofNat_Int, e4, toIntT, modT, hm, outOf]
  · have e2 : sIf (asB (mOp gtI (mOp ixT (mV 0) (mC (.str "at"))) (mCall lenT (mCons (mOp ixT (mV 0) (mC (.str "draws"))) mNil)))) (sRet (mC (.int 0))) sNil [.bo (wT ds (n + 1)), .fz (.int m)] = some (.rt (.fz (.int 0)), [.bo (wT ds (n + 1)), .fz (.int m)]) := by
      simp only [sIf, asB, mOp, mV, mC, mCall, mCons, mNil, List.getElem?_cons_zero, pk, pks, ix_at, ix_draws, Out.rs, lenT, gtI, intF, List.length_map, if_true]
      rw [decide_eq_true (by omega)]
      rfl
    rw [seq_rt e2, dif_neg h]
theorem call_next {F : FN} (hF : F = runF 0 tNext) {i : Nat} {cs : Cs} {ds : List Int} {n : Nat} {m : Int} {e : ME} (hc : cs[i]? = some (.ow (wT ds n))) (he : mFz e cs = some (.fz (.int m), cs)) (hm : 0 < m) :
    mCalB F (mCons (mV i) (mCons (mFz e) mNil)) cs = some (.fz (.int (nxt ds n m)), cs.set i (.ow (wT ds (n + 1)))) := by
  subst hF
  have e1 : mCons (mV i) (mCons (mFz e) mNil) cs = some ([.sl i, .fz (.int m)], cs) := by
    simp only [mCons, mV, hc, he, mNil]
  unfold mCalB
  rw [e1]
  simp only [fzs, hc, List.map_cons, List.map_nil, next_run ds n hm, Out.rs]
theorem call_nextB {F : FN} (hF : F = runF 0 tNext) {i : Nat} {cs : Cs} {ds : List Int} {n : Nat} {m : Int} {e : ME} (hc : cs[i]? = some (.bo (wT ds n))) (he : mFz e cs = some (.fz (.int m), cs)) (hm : 0 < m) :
    mCalB F (mCons (mV i) (mCons (mFz e) mNil)) cs = some (.fz (.int (nxt ds n m)), cs.set i (.bo (wT ds (n + 1)))) := by
  subst hF
  have e1 : mCons (mV i) (mCons (mFz e) mNil) cs = some ([.sl i, .fz (.int m)], cs) := by
    simp only [mCons, mV, hc, he, mNil]
  unfold mCalB
  rw [e1]
  simp only [fzs, hc, List.map_cons, List.map_nil, next_run ds n hm, Out.rs]
def tPick (F : FN) : MS := (sRet (mOp ixT (mV 1) (mCalB F (mCons (mV 0) (mCons (mFz (mCall lenT (mCons (mV 1) mNil))) mNil)))))
def pkt (ds : List Int) (n : Nat) (ts : List T) : T := (ts[(nxt ds n ts.length).toNat]?).getD .none
theorem pkt_at (ds : List Int) (n : Nat) {ts : List T} (h : ts ≠ []) : atT ts (nxt ds n ts.length) = some (pkt ds n ts) := by
  have hp : 0 < ts.length := List.length_pos_iff.mpr h
  have h0 := nxt_le ds n (m := ts.length) (by omega)
  have h1 := nxt_lt ds n (m := ts.length) (by omega)
  have e : nxt ds n ts.length = ((nxt ds n ts.length).toNat : Int) := (Int.toNat_of_nonneg h0).symm
  have hk : (nxt ds n ts.length).toNat < ts.length := by omega
  rw [e, atT_nat hk]
  unfold pkt
  rw [List.getElem?_eq_getElem hk]
  rfl
theorem pkt_mem (ds : List Int) (n : Nat) {ts : List T} (h : ts ≠ []) : pkt ds n ts ∈ ts := by
  have e := pkt_at ds n h
  unfold atT at e
  split at e
  · exact List.mem_of_getElem? e
  · cases e
theorem pick_run {F : FN} (hF : F = runF 0 tNext) (ds : List Int) (n : Nat) {ts : List T} (h : ts ≠ []) :
    runF 0 (tPick F) [.bo (wT ds n), .fz (.list ts)] = some (.fz (pkt ds n ts), [.bo (wT ds (n + 1)), .fz (.list ts)]) := by
  have hp : 0 < ts.length := List.length_pos_iff.mpr h
  have e1 := call_nextB hF (i := 0) (cs := [.bo (wT ds n), .fz (.list ts)]) (ds := ds) (n := n) (m := ts.length) (e := mCall lenT (mCons (mV 1) mNil)) rfl
    (by simp only [mFz, mCall, mCons, mV, mNil, List.getElem?_cons_succ, List.getElem?_cons_zero, pks, pk, lenT, Out.rs, frz]) (by omega)
  unfold runF tPick
  rw [List.replicate_zero, List.append_nil]
  have e2 : ixT (.list ts) (.int (nxt ds n ts.length)) = some (.fz (pkt ds n ts)) := by
    show (atT ts (nxt ds n ts.length)).map Out.fz = _
    rw [pkt_at ds n h]; rfl
  have e3 : mV 1 [.bo (wT ds n), .fz (.list ts)] = some (.fz (.list ts), [.bo (wT ds n), .fz (.list ts)]) := rfl
  unfold sRet mOp
  rw [e3]
  simp only [e1, pk, e2, Out.rs, outOf]
  rfl
theorem call_pick {F : FN} {F' : FN} (hF : F = runF 0 (tPick F')) (hF' : F' = runF 0 tNext) {i : Nat} {cs : Cs} {ds : List Int} {n : Nat} {ts : List T} {e : ME} (hc : cs[i]? = some (.ow (wT ds n))) (he : mFz e cs = some (.fz (.list ts), cs)) (h : ts ≠ []) :
    mCalB F (mCons (mV i) (mCons (mFz e) mNil)) cs = some (.fz (pkt ds n ts), cs.set i (.ow (wT ds (n + 1)))) := by
  subst hF
  have e1 : mCons (mV i) (mCons (mFz e) mNil) cs = some ([.sl i, .fz (.list ts)], cs) := by
    simp only [mCons, mV, hc, he, mNil]
  unfold mCalB
  rw [e1]
  simp only [fzs, hc, List.map_cons, List.map_nil, pick_run hF' ds n h, Out.rs]
/-! the draws -/
def tDraws : MS :=
      (sSeq (sSet 2 (mLst mNil))
      (sSeq (sSet 3 (mC (.int 7)))
      (sSeq (sFor (iRange (mCons (mCall lenT (mCons (mV 0) mNil)) mNil)) (gN 4) (sSeq (sSet 5 (mCall absT (mCons (mCall toIntT (mCons (mOp ixT (mV 0) (mV 4)) mNil)) mNil)))
      (sSeq (sSet 3 (mOp modT (mCall toIntT (mCons (mOp addT (mOp addT (mOp mulI (mV 3) (mC (.int 48271))) (mOp modT (mV 5) (mC (.int 1000003)))) (mV 4)) mNil)) (mC (.int 65537))))
      (sSeq (sSet 6 (mC (.int 0)))
      (sSeq (sIf (asB (mOp geI (mV 5) (mOp powT (mC (.int 10)) (mC (.int 18))))) (sSet 6 (mV 5)) (sSeq (sExpr (mMut 2 "list" appT (mCons (mFz (mOp modT (mCall toIntT (mCons (mV 5) mNil)) (mC (.int 997)))) mNil)))
      (sExpr (mMut 2 "list" appT (mCons (mFz (mOp modT (mOp modT (mCall toIntT (mCons (mOp addT (mOp mulI (mV 3) (mC (.int 69621))) (mC (.int 5))) mNil)) (mC (.int 65521))) (mC (.int 997)))) mNil)))))
      (sFor (iRange (mCons (mC (.int 60)) mNil)) (gN 7) (sIf (asB (mOp gtI (mV 6) (mC (.int 0)))) (sSeq (sExpr (mMut 2 "list" appT (mCons (mFz (mOp modT (mCall toIntT (mCons (mV 6) mNil)) (mC (.int 997)))) mNil)))
      (sSet 6 (mOp divT (mV 6) (mC (.int 997))))) sNil)))))))
      (sSeq (sFor (iRange (mCons (mV 1) mNil)) (gN 4) (sSeq (sSet 3 (mOp modT (mCall toIntT (mCons (mOp addT (mOp addT (mOp mulI (mV 3) (mC (.int 16807))) (mV 4)) (mC (.int 1))) mNil)) (mC (.int 65537))))
      (sExpr (mMut 2 "list" appT (mCons (mFz (mOp modT (mCall toIntT (mCons (mV 3) mNil)) (mC (.int 997)))) mNil)))))
      (sRet (mSl (mV 2) none (some (mV 1))))))))
/-- the cells of the draws: the row, the number kept, what else -/
def DrC (ns : List Int) (many : Int) (L : Nat) (cs : Cs) : Prop := ∃ (ds : List Int) (mx : Int) (a b c d : Cell), cs = [.fz (.list (ns.map .int)), .fz (.int many), .ow (.list (ds.map .int)), .fz (.int mx), a, b, c, d] ∧ ds.length ≤ L ∧ 0 ≤ mx ∧ mx < 65537 ∧ (∀ t, a ≠ .bo t) ∧ (∀ t, b ≠ .bo t) ∧ (∀ t, c ≠ .bo t) ∧ ∀ t, d ≠ .bo t
theorem app_ints {ds : List Int} {z : Int} (h : ds.length < sizeLine) : appT (.list (ds.map .int)) [.int z] = some (.list ((ds ++ [z]).map .int), .none) := by
  simp only [appT, List.length_map, h, if_true, List.map_append, List.map_cons, List.map_nil]
end TL
namespace TL
open PySem PySem.Spec L2
def NoB (c : Cell) : Prop := ∀ t, c ≠ .bo t
theorem NoB.fz (t : T) : NoB (.fz t) := fun _ h => by cases h
theorem NoB.ow (t : T) : NoB (.ow t) := fun _ h => by cases h
theorem NoB.un : NoB .un := fun _ h => by cases h
section
variable {cs c c1 c2 : Cs} {i j : Nat} {t a b : T} {ts : List T} {Q : Rs → Cs → Prop} {QA : List Rs → Cs → Prop} {QB : Bool → Cs → Prop} {QS : Fl → Cs → Prop} {m ma mb : ME} {ms : MA} {mt mt' : MT} {st sn : MS} {F : T → T → Option Out} {FL : List T → Option Out} {F1 : T → Option Out} {r ra rb : Rs} {rs : List Rs} {o : Out} {x y : Cell}
/-! frozen -/
def Fzk (r : Rs) (c : Cs) (Q : T → Cs → Prop) : Prop := ∃ t c', frz r c = some (t, c') ∧ Q t c'
theorem fzk_fz {Q : T → Cs → Prop} (k : Q t c) : Fzk (.fz t) c Q := ⟨t, c, rfl, k⟩
theorem fzk_nw {Q : T → Cs → Prop} (k : Q t c) : Fzk (.nw t) c Q := ⟨t, c, rfl, k⟩
theorem fzk_ow {Q : T → Cs → Prop} (h : c[i]? = some (.ow t)) (k : Q t (c.set i (.fz t))) : Fzk (.sl i) c Q := ⟨t, _, by simp only [frz, h], k⟩
theorem wp_V (h : cs[i]? = some (.fz t)) (k : Q (.fz t) cs) : Wp (mV i cs) Q := ⟨_, _, by unfold mV; rw [h], k⟩
theorem wp_Vo (h : cs[i]? = some (.ow t)) (k : Q (.sl i) cs) : Wp (mV i cs) Q := ⟨_, _, by unfold mV; rw [h], k⟩
theorem wp_Vb (h : cs[i]? = some (.bo t)) (k : Q (.sl i) cs) : Wp (mV i cs) Q := ⟨_, _, by unfold mV; rw [h], k⟩
theorem wp_C (k : Q (.fz t) cs) : Wp (mC t cs) Q := ⟨_, _, rfl, k⟩
theorem wp_Fz (k : Wp (m cs) fun r c => Fzk r c fun t c' => Q (.fz t) c') : Wp (mFz m cs) Q := by
  obtain ⟨r, c, e, t, c', e2, q⟩ := k
  exact ⟨_, _, by unfold mFz; rw [e]; simp only [e2], q⟩
def Pk2 (F : T → T → Option Out) (ra rb : Rs) (c : Cs) (Q : Rs → Cs → Prop) : Prop := ∃ a b o, pk ra c = some a ∧ pk rb c = some b ∧ F a b = some o ∧ Q o.rs c
theorem pk2 (ha : pk ra c = some a) (hb : pk rb c = some b) (hF : F a b = some (.fz t)) (k : Q (.fz t) c) : Pk2 F ra rb c Q := ⟨a, b, .fz t, ha, hb, hF, k⟩
theorem pk2n (ha : pk ra c = some a) (hb : pk rb c = some b) (hF : F a b = some (.nw t)) (k : Q (.nw t) c) : Pk2 F ra rb c Q := ⟨a, b, .nw t, ha, hb, hF, k⟩
theorem wp_op (k : Wp (ma cs) fun ra c1 => Wp (mb c1) fun rb c2 => Pk2 F ra rb c2 Q) : Wp (mOp F ma mb cs) Q := by
  obtain ⟨ra, c1, e1, rb, c2, e2, a, b, o, p, q, f, k⟩ := k
  exact ⟨_, _, by unfold mOp; rw [e1]; simp only [e2, p, q, f], k⟩
def Pk1 (F : T → Option Out) (ra : Rs) (c : Cs) (Q : Rs → Cs → Prop) : Prop := ∃ a o, pk ra c = some a ∧ F a = some o ∧ Q o.rs c
theorem pk1 (ha : pk ra c = some a) (hF : F1 a = some (.fz t)) (k : Q (.fz t) c) : Pk1 F1 ra c Q := ⟨a, .fz t, ha, hF, k⟩
theorem pk1n (ha : pk ra c = some a) (hF : F1 a = some (.nw t)) (k : Q (.nw t) c) : Pk1 F1 ra c Q := ⟨a, .nw t, ha, hF, k⟩
theorem wp_un (k : Wp (ma cs) fun ra c1 => Pk1 F1 ra c1 Q) : Wp (mUn F1 ma cs) Q := by
  obtain ⟨ra, c1, e1, a, o, p, f, k⟩ := k
  exact ⟨_, _, by unfold mUn; rw [e1]; simp only [p, f], k⟩
theorem wp_nil (k : QA [] cs) : Wp (mNil cs) QA := ⟨_, _, rfl, k⟩
theorem wp_cons (k : Wp (m cs) fun r c => Wp (ms c) fun rs c' => QA (r :: rs) c') : Wp (mCons m ms cs) QA := by
  obtain ⟨r, c, e, rs, c', e2, q⟩ := k
  exact ⟨_, _, by unfold mCons; rw [e]; simp only [e2], q⟩
theorem wp_tup (k : Wp (ms cs) fun rs c => ∃ ts, fzs rs = some ts ∧ ts.length ≤ sizeLine ∧ Q (.fz (.tuple ts)) c) : Wp (mTup ms cs) Q := by
  obtain ⟨rs, c, e, ts, h1, h2, k⟩ := k
  exact ⟨_, _, by unfold mTup; rw [e]; simp only [h1, h2, if_true], k⟩
theorem wp_lst (k : Wp (ms cs) fun rs c => ∃ ts, fzs rs = some ts ∧ ts.length ≤ sizeLine ∧ Q (.nw (.list ts)) c) : Wp (mLst ms cs) Q := by
  obtain ⟨rs, c, e, ts, h1, h2, k⟩ := k
  exact ⟨_, _, by unfold mLst; rw [e]; simp only [h1, h2, if_true], k⟩
def Pks (F : List T → Option Out) (rs : List Rs) (c : Cs) (Q : Rs → Cs → Prop) : Prop := ∃ ts o, pks rs c = some ts ∧ F ts = some o ∧ Q o.rs c
theorem pks_fz (h : pks rs c = some ts) (hF : FL ts = some (.fz t)) (k : Q (.fz t) c) : Pks FL rs c Q := ⟨ts, .fz t, h, hF, k⟩
theorem pks_nw (h : pks rs c = some ts) (hF : FL ts = some (.nw t)) (k : Q (.nw t) c) : Pks FL rs c Q := ⟨ts, .nw t, h, hF, k⟩
theorem wp_call (k : Wp (ms cs) fun rs c => Pks FL rs c Q) : Wp (mCall FL ms cs) Q := by
  obtain ⟨rs, c, e, ts, o, h1, h2, k⟩ := k
  exact ⟨_, _, by unfold mCall; rw [e]; simp only [h1, h2], k⟩
/-! tests -/
theorem wp_asB (k : Wp (m cs) fun r c => ∃ b, r = .fz (.bool b) ∧ QB b c) : Wp (asB m cs) QB := by
  obtain ⟨r, c, e, b, rfl, q⟩ := k
  exact ⟨_, _, by unfold asB; rw [e], q⟩
theorem asb_k {b : Bool} {P : Bool → Prop} (k : P b) : ∃ b', Rs.fz (.bool b) = .fz (.bool b') ∧ P b' := ⟨b, rfl, k⟩
theorem wp_tnot (k : Wp (mt cs) fun b c => QB (!b) c) : Wp (mtNot mt cs) QB := by
  obtain ⟨b, c, e, q⟩ := k
  exact ⟨_, _, by unfold mtNot; rw [e], q⟩
def Br (b : Bool) (A B : Prop) : Prop := (b = true → A) ∧ (b = false → B)
theorem br_t {A B : Prop} (h : A) : Br true A B := ⟨fun _ => h, fun e => absurd e (by decide)⟩
theorem br_f {A B : Prop} (h : B) : Br false A B := ⟨fun e => absurd e (by decide), fun _ => h⟩
theorem wp_tand (k : Wp (mt cs) fun b c => Br b (Wp (mt' c) QB) (QB false c)) : Wp (mtAnd mt mt' cs) QB := by
  obtain ⟨b, c, e, q1, q2⟩ := k
  unfold mtAnd
  rw [e]
  cases b with
  | true => exact q1 rfl
  | false => exact ⟨_, _, rfl, q2 rfl⟩
theorem wp_tor (k : Wp (mt cs) fun b c => Br b (QB true c) (Wp (mt' c) QB)) : Wp (mtOr mt mt' cs) QB := by
  obtain ⟨b, c, e, q1, q2⟩ := k
  unfold mtOr
  rw [e]
  cases b with
  | true => exact ⟨_, _, rfl, q1 rfl⟩
  | false => exact q2 rfl
theorem wp_mif (k : Wp (mt cs) fun b c => Br b (Wp (ma c) Q) (Wp (mb c) Q)) : Wp (mIf mt ma mb cs) Q := by
  obtain ⟨b, c, e, q1, q2⟩ := k
  unfold mIf
  rw [e]
  cases b with
  | true => exact q1 rfl
  | false => exact q2 rfl
theorem wp_not (k : Wp (asB m cs) fun b c => Q (.fz (.bool (!b))) c) : Wp (mNotV m cs) Q := by
  obtain ⟨b, c, e, q⟩ := k
  exact ⟨_, _, by unfold mNotV; rw [e], q⟩
theorem wp_and (k : Wp (asB ma cs) fun b c => Br b (Wp (mb c) Q) (Q (.fz (.bool false)) c)) : Wp (mAndV ma mb cs) Q := by
  obtain ⟨b, c, e, q1, q2⟩ := k
  unfold mAndV
  rw [e]
  cases b with
  | true => exact q1 rfl
  | false => exact ⟨_, _, rfl, q2 rfl⟩
/-! statements -/
theorem thn_nx (k : Wp (sn c) QS) : Thn sn QS .nx c := k
theorem thn_rt (k : QS (.rt o) c) : Thn sn QS (.rt o) c := k
theorem thn_bk (k : QS .bk c) : Thn sn QS .bk c := k
theorem wp_sif (k : Wp (mt cs) fun b c => Br b (Wp (st c) QS) (Wp (sn c) QS)) : Wp (sIf mt st sn cs) QS := by
  obtain ⟨b, c, e, q1, q2⟩ := k
  unfold sIf
  rw [e]
  cases b with
  | true => exact q1 rfl
  | false => exact q2 rfl
theorem wp_snil (k : QS .nx cs) : Wp (sNil cs) QS := ⟨_, _, rfl, k⟩
theorem wp_sbreak (k : QS .bk cs) : Wp (sBreak cs) QS := ⟨_, _, rfl, k⟩
theorem wp_sexpr (k : Wp (m cs) fun _ c => QS .nx c) : Wp (sExpr m cs) QS := by
  obtain ⟨r, c, e, q⟩ := k
  exact ⟨_, _, by unfold sExpr; rw [e], q⟩
def Outk (r : Rs) (c : Cs) (QS : Fl → Cs → Prop) : Prop := ∃ o, outOf r c = some o ∧ QS (.rt o) c
theorem outk_fz (k : QS (.rt (.fz t)) c) : Outk (.fz t) c QS := ⟨_, rfl, k⟩
theorem outk_nw (k : QS (.rt (.nw t)) c) : Outk (.nw t) c QS := ⟨_, rfl, k⟩
theorem outk_ow (h : c[i]? = some (.ow t)) (k : QS (.rt (.nw t)) c) : Outk (.sl i) c QS := ⟨_, by simp only [outOf, h], k⟩
theorem wp_sret (k : Wp (m cs) fun r c => Outk r c QS) : Wp (sRet m cs) QS := by
  obtain ⟨r, c, e, o, h, q⟩ := k
  exact ⟨_, _, by unfold sRet; rw [e]; simp only [h], q⟩
def Setk (i : Nat) (r : Rs) (c : Cs) (Q : Cs → Prop) : Prop := ∃ c', setR i r c = some c' ∧ Q c'
theorem setR_fz (h : cs[i]? = some x) (n : NoB x) : setR i (.fz t) cs = some (cs.set i (.fz t)) := by
  unfold setR
  rw [h]
  cases x with
  | bo u => exact absurd rfl (n u)
  | _ => rfl
theorem setR_nw (h : cs[i]? = some x) (n : NoB x) : setR i (.nw t) cs = some (cs.set i (.ow t)) := by
  unfold setR
  rw [h]
  cases x with
  | bo u => exact absurd rfl (n u)
  | _ => rfl
theorem setk_fz {Q : Cs → Prop} (h : c[i]? = some x) (n : NoB x) (k : Q (c.set i (.fz t))) : Setk i (.fz t) c Q := ⟨_, setR_fz h n, k⟩
theorem setk_nw {Q : Cs → Prop} (h : c[i]? = some x) (n : NoB x) (k : Q (c.set i (.ow t))) : Setk i (.nw t) c Q := ⟨_, setR_nw h n, k⟩
theorem wp_sset (k : Wp (m cs) fun r c => Setk i r c fun c' => QS .nx c') : Wp (sSet i m cs) QS := by
  obtain ⟨r, c, e, c', h, q⟩ := k
  exact ⟨_, _, by unfold sSet; rw [e]; simp only [h], q⟩
theorem gn_fz (h : c[i]? = some x) (n : NoB x) {P : Cs → Prop} (k : P (c.set i (.fz t))) : ∃ c1, gN i t c = some c1 ∧ P c1 := ⟨_, setR_fz h n, k⟩
theorem wp_aug {o' : Out} (h0 : cs[i]? = some (.fz a)) (k : Wp (m cs) fun r c => ∃ b o, pk r c = some b ∧ F a b = some o ∧ Setk i o.rs c fun c' => QS .nx c') : Wp (sAug i F m cs) QS := by
  obtain ⟨r, c, e, b, o, h1, h2, c', h3, q⟩ := k
  exact ⟨_, _, by unfold sAug; rw [h0]; simp only [e, h1, h2, h3], q⟩
theorem aug_k {Q : Cs → Prop} (h1 : pk r c = some b) (h2 : F a b = some (.fz t)) (k : Setk i (.fz t) c Q) : ∃ b o, pk r c = some b ∧ F a b = some o ∧ Setk i o.rs c Q := ⟨b, .fz t, h1, h2, k⟩
def Parv (r : Rs) (c : Cs) (Q : Rs → Cs → Prop) : Prop := ∃ r' c', (match r with
  | .sl i => match frz (.sl i) c with
    | some (t, c2) => some (Rs.fz t, c2)
    | none => none
  | r => some (r, c)) = some (r', c') ∧ Q r' c'
theorem parv_fz (k : Q (.fz t) c) : Parv (.fz t) c Q := ⟨_, _, rfl, k⟩
theorem parv_nw (k : Q (.nw t) c) : Parv (.nw t) c Q := ⟨_, _, rfl, k⟩
theorem wp_keep (k : Wp (m cs) fun r c => Parv r c Q) : Wp (mKeep m cs) Q := by
  obtain ⟨r, c, e, r', c', e2, q⟩ := k
  refine ⟨r', c', ?_, q⟩
  unfold mKeep
  rw [e]
  cases r with
  | sl i => exact e2
  | fz t => exact e2
  | nw t => exact e2
def Put1k (i : Nat) (r : Rs) (c : Cs) (Q : Cs → Prop) : Prop := ∃ c', put1 i r c = some c' ∧ Q c'
theorem put1_fz {Q : Cs → Prop} (h : c[i]? = some x) (n : NoB x) (k : Q (c.set i (.fz t))) : Put1k i (.fz t) c Q := ⟨_, by
  unfold put1
  rw [h]
  cases x with
  | bo u => exact absurd rfl (n u)
  | _ => rfl, k⟩
theorem put1_nw {Q : Cs → Prop} (h : c[i]? = some x) (n : NoB x) (k : Q (c.set i (.ow t))) : Put1k i (.nw t) c Q := ⟨_, by
  unfold put1
  rw [h]
  cases x with
  | bo u => exact absurd rfl (n u)
  | _ => rfl, k⟩
theorem wp_par (k : Wp (mKeep ma cs) fun ra c1 => Wp (mKeep mb c1) fun rb c2 => Put1k i ra c2 fun c3 => Put1k j rb c3 fun c4 => QS .nx c4) : Wp (sPar i j ma mb cs) QS := by
  obtain ⟨ra, c1, e1, rb, c2, e2, c3, e3, c4, e4, q⟩ := k
  exact ⟨_, _, by unfold sPar; rw [e1]; simp only [e2, e3, e4], q⟩
theorem wp_par3 {l : Nat} {mc : ME} (k : Wp (mKeep ma cs) fun ra c1 => Wp (mKeep mb c1) fun rb c2 => Wp (mKeep mc c2) fun rc c3 => Put1k i ra c3 fun c4 => Put1k j rb c4 fun c5 => Put1k l rc c5 fun c6 => QS .nx c6) : Wp (sPar3 i j l ma mb mc cs) QS := by
  obtain ⟨ra, c1, e1, rb, c2, e2, rc, c3, e3, c4, e4, c5, e5, c6, e6, q⟩ := k
  exact ⟨_, _, by unfold sPar3; rw [e1]; simp only [e2, e3, e4, e5, e6], q⟩
theorem wp_sasg {g : MG} (k : Wp (mFz m cs) fun r c => ∃ t c', r = .fz t ∧ g t c = some c' ∧ QS .nx c') : Wp (sAsg m g cs) QS := by
  obtain ⟨r, c, e, t, c', rfl, h, q⟩ := k
  exact ⟨_, _, by unfold sAsg; rw [e]; simp only [h], q⟩
def Mutk (i : Nat) (FM : T → List T → Option (T × T)) (rs : List Rs) (c : Cs) (Q : Rs → Cs → Prop) : Prop := ∃ ts t t' u, fzs rs = some ts ∧ c[i]? = some (.ow t) ∧ FM t ts = some (t', u) ∧ Q (.fz u) (c.set i (.ow t'))
theorem wp_mut {n : String} {FM : T → List T → Option (T × T)} {t0 : T} (h0 : cs[i]? = some (.ow t0)) (h1 : isTy n t0 = true) (k : Wp (ms cs) fun rs c => Mutk i FM rs c Q) : Wp (mMut i n FM ms cs) Q := by
  obtain ⟨rs, c, e, ts, t, t', u, h2, h3, h4, q⟩ := k
  exact ⟨_, _, by unfold mMut; rw [h0]; simp only [h1, if_true, e, h2, h3, h4], q⟩
theorem mut_k {FM : T → List T → Option (T × T)} {t' u : T} (h2 : fzs rs = some ts) (h3 : c[i]? = some (.ow t)) (h4 : FM t ts = some (t', u)) (k : Q (.fz u) (c.set i (.ow t'))) : Mutk i FM rs c Q := ⟨ts, t, t', u, h2, h3, h4, k⟩
theorem tup_k {P : List T → Prop} (h : fzs rs = some ts) (hl : ts.length ≤ sizeLine) (k : P ts) : ∃ ts, fzs rs = some ts ∧ ts.length ≤ sizeLine ∧ P ts := ⟨ts, h, hl, k⟩
theorem wp_eq {α : Type} {o : Option (α × Cs)} {v : α} {Q : α → Cs → Prop} (e : o = some (v, c)) (k : Q v c) : Wp o Q := ⟨_, _, e, k⟩
/-! what the operations give -/
theorem f_add (n k : Int) : addT (.int n) (.int k) = some (.fz (.int (n + k))) := rfl
theorem f_aug (n k : Int) : augT (.int n) (.int k) = some (.fz (.int (n + k))) := rfl
theorem f_sub (n k : Int) : subT (.int n) (.int k) = some (.fz (.int (n - k))) := rfl
theorem f_lt (n k : Int) : ltI (.int n) (.int k) = some (.fz (.bool (decide (n < k)))) := rfl
theorem f_le (n k : Int) : leI (.int n) (.int k) = some (.fz (.bool (decide (n ≤ k)))) := rfl
theorem f_gt (n k : Int) : gtI (.int n) (.int k) = some (.fz (.bool (decide (k < n)))) := rfl
theorem f_ge (n k : Int) : geI (.int n) (.int k) = some (.fz (.bool (decide (k ≤ n)))) := rfl
theorem f_mulr {n k : Int} (h : -(2 ^ 64) < k ∧ k < 2 ^ 64) : mulI (.int n) (.int k) = some (.fz (.int (n * k))) := if_pos (.inr h)
theorem f_mull {n k : Int} (h : -(2 ^ 64) < n ∧ n < 2 ^ 64) : mulI (.int n) (.int k) = some (.fz (.int (n * k))) := if_pos (.inl h)
theorem f_mod {n k : Int} (h : 0 < k) : modT (.int n) (.int k) = some (.fz (.int (n % k))) := if_pos h
theorem f_div {n k : Int} (h : 0 < k ∧ k < 1073741824) : divT (.int n) (.int k) = some (.fz (.int (n / k))) := if_pos h
theorem f_ix {ts : List T} {k : Int} {t : T} (h : atT ts k = some t) : ixT (.list ts) (.int k) = some (.fz t) := by
  show (atT ts k).map Out.fz = _
  rw [h]; rfl
theorem f_ixt {ts : List T} {k : Int} {t : T} (h : atT ts k = some t) : ixT (.tuple ts) (.int k) = some (.fz t) := by
  show (atT ts k).map Out.fz = _
  rw [h]; rfl
theorem at_ints {ns : List Int} {k : Nat} (h : k < ns.length) : atT (ns.map PyData.int) (k : Int) = some (.int ns[k]) := by
  rw [atT_nat (by rw [List.length_map]; exact h), List.getElem?_map, List.getElem?_eq_getElem h]
  rfl
end
theorem app_T {ts : List T} {t : T} (h : ts.length < sizeLine) : appT (.list ts) [t] = some (.list (ts ++ [t]), .none) := by
  simp only [appT, h, if_true]
theorem wp_call_next {FN0 : FN} {i : Nat} {cs : Cs} {ds : List Int} {n : Nat} {m : Int} {e : ME} {Q : Rs → Cs → Prop} (hF : FN0 = runF 0 tNext) (hc : cs[i]? = some (.ow (wT ds n))) (he : mFz e cs = some (.fz (.int m), cs)) (hm : 0 < m)
    (k : Q (.fz (.int (nxt ds n m))) (cs.set i (.ow (wT ds (n + 1))))) : Wp (mCalB FN0 (mCons (mV i) (mCons (mFz e) mNil)) cs) Q := ⟨_, _, call_next hF hc he hm, k⟩
theorem irng1 {ms : MA} {cs : Cs} {n : Nat} (h : ms cs = some ([.fz (.int (n : Int))], cs)) (hn : n < 2 ^ 62) : iRange ms cs = some (rngT 0 n, cs) := by
  unfold iRange
  rw [h]
  simp only
  rw [if_pos (by omega), Int.toNat_natCast]
theorem len_at {cs : Cs} {i : Nat} {ts : List T} {n : Nat} {r : Rs} (h : mV i cs = some (r, cs)) (h2 : pk r cs = some (.list ts)) (hn : ts.length = n) : mCons (mCall lenT (mCons (mV i) mNil)) mNil cs = some ([.fz (.int (n : Int))], cs) := by
  simp only [mCons, mCall, mNil, h, pks, h2, lenT, hn, Out.rs]
theorem szb : (100000 : Nat) ≤ sizeLine := by decide
end TL
namespace TL
open PySem PySem.Spec L2
/-- a turn of the draws' inner loops -/
theorem dr_step {ns : List Int} {many mx rest : Int} {ds : List Int} {a b d : Cell} (hl : ds.length < sizeLine) (hd : NoB d) (t : T) (Q : Fl → Cs → Prop)
    (k : ∀ ds' rest' , ds'.length ≤ ds.length + 1 → Q .nx [.fz (.list (ns.map .int)), .fz (.int many), .ow (.list (List.map .int ds')), .fz (.int mx), a, b, .fz (.int rest'), .fz t]) :
    ∃ c1, gN 7 t [.fz (.list (ns.map .int)), .fz (.int many), .ow (.list (ds.map .int)), .fz (.int mx), a, b, .fz (.int rest), d] = some c1 ∧
      Wp ((sIf (asB (mOp gtI (mV 6) (mC (.int 0)))) (sSeq (sExpr (mMut 2 "list" appT (mCons (mFz (mOp modT (mCall toIntT (mCons (mV 6) mNil)) (mC (.int 997)))) mNil)))
      (sSet 6 (mOp divT (mV 6) (mC (.int 997))))) sNil) c1) Q := by
  (repeat (first | (with_reducible refine wp_C ?_) | (with_reducible refine wp_op ?_) | (with_reducible refine wp_seq ?_) | (with_reducible refine wp_sset ?_) | (with_reducible refine wp_Fz ?_) | (with_reducible refine wp_cons ?_) | (with_reducible refine wp_nil ?_) | (with_reducible refine wp_call ?_) | (with_reducible refine wp_tup ?_) | (with_reducible refine wp_lst ?_) | (with_reducible refine wp_asB ?_) | (with_reducible refine asb_k ?_) | (with_reducible refine fzk_fz ?_) | (with_reducible refine fzk_nw ?_) | (with_reducible refine wp_un ?_) | (with_reducible refine wp_sret ?_) | (with_reducible refine outk_fz ?_) | (with_reducible refine outk_nw ?_) | (with_reducible refine wp_sexpr ?_) | (with_reducible refine wp_sif ?_) | (with_reducible refine wp_snil ?_) | (with_reducible refine wp_sbreak ?_) | (with_reducible refine thn_nx ?_) | (with_reducible refine thn_rt ?_) | (with_reducible refine thn_bk ?_) | (with_reducible refine wp_tnot ?_) | (with_reducible refine wp_tand ?_) | (with_reducible refine wp_tor ?_) | (with_reducible refine wp_mif ?_) | (with_reducible refine wp_not ?_) | (with_reducible refine wp_and ?_) | (with_reducible refine br_t ?_) | (with_reducible refine br_f ?_) | (with_reducible refine wp_keep ?_) | (with_reducible refine parv_fz ?_) | (with_reducible refine parv_nw ?_) | (with_reducible refine wp_par ?_) | (with_reducible refine wp_par3 ?_) | ((with_reducible apply wp_V); (focus rfl)) | ((with_reducible apply wp_Vo); (focus rfl)) | ((with_reducible apply wp_Vb); (focus rfl)) | ((with_reducible apply outk_ow); (focus rfl)) | ((with_reducible apply setk_fz); (focus rfl); (focus (first | exact NoB.fz _ | exact NoB.un | exact NoB.ow _ | assumption)); simp only [List.set_cons_succ, List.set_cons_zero]) | ((with_reducible apply setk_nw); (focus rfl); (focus (first | exact NoB.fz _ | exact NoB.un | exact NoB.ow _ | assumption)); simp only [List.set_cons_succ, List.set_cons_zero]) | ((with_reducible apply put1_fz); (focus rfl); (focus (first | exact NoB.fz _ | exact NoB.un | exact NoB.ow _ | assumption)); simp only [List.set_cons_succ, List.set_cons_zero]) | ((with_reducible apply put1_nw); (focus rfl); (focus (first | exact NoB.fz _ | exact NoB.un | exact NoB.ow _ | assumption)); simp only [List.set_cons_succ, List.set_cons_zero]) | ((with_reducible apply gn_fz); (focus rfl); (focus (first | exact NoB.fz _ | exact NoB.un | exact NoB.ow _ | assumption)); simp only [List.set_cons_succ, List.set_cons_zero]) | ((with_reducible apply tup_k); (focus rfl); (focus (first | decide | (simp only [List.length_cons, List.length_nil]; decide)))) | ((with_reducible apply pk2); (focus rfl); (focus rfl); (focus (first | exact f_add _ _ | exact f_sub _ _ | exact f_lt _ _ | exact f_le _ _ | exact f_gt _ _ | exact f_ge _ _ | exact f_mod (by first | assumption | omega) | exact f_mulr (by first | assumption | omega) | exact f_mull (by first | assumption | omega) | exact f_div (by first | assumption | omega) | exact f_ix (at_ints (by first | assumption | omega)) | rfl))) | ((with_reducible apply pk1); (focus rfl); (focus rfl)) | ((with_reducible apply pks_fz); (focus rfl); (focus rfl)) | ((with_reducible apply pks_nw); (focus rfl); (focus rfl)) | ((with_reducible apply wp_aug (o' := .fz .none)); (focus rfl)) | ((with_reducible apply aug_k); (focus rfl); (focus (first | exact f_aug _ _ | exact f_sub _ _ | rfl))) | ((with_reducible apply fzk_ow); (focus rfl); simp only [List.set_cons_succ, List.set_cons_zero]) | ((with_reducible apply wp_mut); (focus rfl); (focus rfl)) | ((with_reducible apply mut_k); (focus rfl); (focus rfl); (focus (first | exact app_ints (by first | assumption | omega) | exact app_T (by first | assumption | omega))); simp only [List.set_cons_succ, List.set_cons_zero]) | ((with_reducible apply wp_call_next); (focus rfl); (focus rfl); (focus rfl); (focus (first | assumption | decide | omega)); simp only [List.set_cons_succ, List.set_cons_zero])))
  constructor
  · intro h
    (repeat (first | (with_reducible refine wp_C ?_) | (with_reducible refine wp_op ?_) | (with_reducible refine wp_seq ?_) | (with_reducible refine wp_sset ?_) | (with_reducible refine wp_Fz ?_) | (with_reducible refine wp_cons ?_) | (with_reducible refine wp_nil ?_) | (with_reducible refine wp_call ?_) | (with_reducible refine wp_tup ?_) | (with_reducible refine wp_lst ?_) | (with_reducible refine wp_asB ?_) | (with_reducible refine asb_k ?_) | (with_reducible refine fzk_fz ?_) | (with_reducible refine fzk_nw ?_) | (with_reducible refine wp_un ?_) | (with_reducible refine wp_sret ?_) | (with_reducible refine outk_fz ?_) | (with_reducible refine outk_nw ?_) | (with_reducible refine wp_sexpr ?_) | (with_reducible refine wp_sif ?_) | (with_reducible refine wp_snil ?_) | (with_reducible refine wp_sbreak ?_) | (with_reducible refine thn_nx ?_) | (with_reducible refine thn_rt ?_) | (with_reducible refine thn_bk ?_) | (with_reducible refine wp_tnot ?_) | (with_reducible refine wp_tand ?_) | (with_reducible refine wp_tor ?_) | (with_reducible refine wp_mif ?_) | (with_reducible refine wp_not ?_) | (with_reducible refine wp_and ?_) | (with_reducible refine br_t ?_) | (with_reducible refine br_f ?_) | (with_reducible refine wp_keep ?_) | (with_reducible refine parv_fz ?_) | (with_reducible refine parv_nw ?_) | (with_reducible refine wp_par ?_) | (with_reducible refine wp_par3 ?_) | ((with_reducible apply wp_V); (focus rfl)) | ((with_reducible apply wp_Vo); (focus rfl)) | ((with_reducible apply wp_Vb); (focus rfl)) | ((with_reducible apply outk_ow); (focus rfl)) | ((with_reducible apply setk_fz); (focus rfl); (focus (first | exact NoB.fz _ | exact NoB.un | exact NoB.ow _ | assumption)); simp only [List.set_cons_succ, List.set_cons_zero]) | ((with_reducible apply setk_nw); (focus rfl); (focus (first | exact NoB.fz _ | exact NoB.un | exact NoB.ow _ | assumption)); simp only [List.set_cons_succ, List.set_cons_zero]) | ((with_reducible apply put1_fz); (focus rfl); (focus (first | exact NoB.fz _ | exact NoB.un | exact NoB.ow _ | assumption)); simp only [List.set_cons_succ, List.set_cons_zero]) | ((with_reducible apply put1_nw); (focus rfl); (focus (first | exact NoB.fz _ | exact NoB.un | exact NoB.ow _ | assumption)); simp only [List.set_cons_succ, List.set_cons_zero]) | ((with_reducible apply gn_fz); (focus rfl); (focus (first | exact NoB.fz _ | exact NoB.un | exact NoB.ow _ | assumption)); simp only [List.set_cons_succ, List.set_cons_zero]) | ((with_reducible apply tup_k); (focus rfl); (focus (first | decide | (simp only [List.length_cons, List.length_nil]; decide)))) | ((with_reducible apply pk2); (focus rfl); (focus rfl); (focus (first | exact f_add _ _ | exact f_sub _ _ | exact f_lt _ _ | exact f_le _ _ | exact f_gt _ _ | exact f_ge _ _ | exact f_mod (by first | assumption | omega) | exact f_mulr (by first | assumption | omega) | exact f_mull (by first | assumption | omega) | exact f_div (by first | assumption | omega) | exact f_ix (at_ints (by first | assumption | omega)) | rfl))) | ((with_reducible apply pk1); (focus rfl); (focus rfl)) | ((with_reducible apply pks_fz); (focus rfl); (focus rfl)) | ((with_reducible apply pks_nw); (focus rfl); (focus rfl)) | ((with_reducible apply wp_aug (o' := .fz .none)); (focus rfl)) | ((with_reducible apply aug_k); (focus rfl); (focus (first | exact f_aug _ _ | exact f_sub _ _ | rfl))) | ((with_reducible apply fzk_ow); (focus rfl); simp only [List.set_cons_succ, List.set_cons_zero]) | ((with_reducible apply wp_mut); (focus rfl); (focus rfl)) | ((with_reducible apply mut_k); (focus rfl); (focus rfl); (focus (first | exact app_ints (by first | assumption | omega) | exact app_T (by first | assumption | omega))); simp only [List.set_cons_succ, List.set_cons_zero]) | ((with_reducible apply wp_call_next); (focus rfl); (focus rfl); (focus rfl); (focus (first | assumption | decide | omega)); simp only [List.set_cons_succ, List.set_cons_zero])))
    exact k (ds ++ [rest % 997]) (rest / 997) (by simp)
  · intro h
    (repeat (first | (with_reducible refine wp_C ?_) | (with_reducible refine wp_op ?_) | (with_reducible refine wp_seq ?_) | (with_reducible refine wp_sset ?_) | (with_reducible refine wp_Fz ?_) | (with_reducible refine wp_cons ?_) | (with_reducible refine wp_nil ?_) | (with_reducible refine wp_call ?_) | (with_reducible refine wp_tup ?_) | (with_reducible refine wp_lst ?_) | (with_reducible refine wp_asB ?_) | (with_reducible refine asb_k ?_) | (with_reducible refine fzk_fz ?_) | (with_reducible refine fzk_nw ?_) | (with_reducible refine wp_un ?_) | (with_reducible refine wp_sret ?_) | (with_reducible refine outk_fz ?_) | (with_reducible refine outk_nw ?_) | (with_reducible refine wp_sexpr ?_) | (with_reducible refine wp_sif ?_) | (with_reducible refine wp_snil ?_) | (with_reducible refine wp_sbreak ?_) | (with_reducible refine thn_nx ?_) | (with_reducible refine thn_rt ?_) | (with_reducible refine thn_bk ?_) | (with_reducible refine wp_tnot ?_) | (with_reducible refine wp_tand ?_) | (with_reducible refine wp_tor ?_) | (with_reducible refine wp_mif ?_) | (with_reducible refine wp_not ?_) | (with_reducible refine wp_and ?_) | (with_reducible refine br_t ?_) | (with_reducible refine br_f ?_) | (with_reducible refine wp_keep ?_) | (with_reducible refine parv_fz ?_) | (with_reducible refine parv_nw ?_) | (with_reducible refine wp_par ?_) | (with_reducible refine wp_par3 ?_) | ((with_reducible apply wp_V); (focus rfl)) | ((with_reducible apply wp_Vo); (focus rfl)) | ((with_reducible apply wp_Vb); (focus rfl)) | ((with_reducible apply outk_ow); (focus rfl)) | ((with_reducible apply setk_fz); (focus rfl); (focus (first | exact NoB.fz _ | exact NoB.un | exact NoB.ow _ | assumption)); simp only [List.set_cons_succ, List.set_cons_zero]) | ((with_reducible apply setk_nw); (focus rfl); (focus (first | exact NoB.fz _ | exact NoB.un | exact NoB.ow _ | assumption)); simp only [List.set_cons_succ, List.set_cons_zero]) | ((with_reducible apply put1_fz); (focus rfl); (focus (first | exact NoB.fz _ | exact NoB.un | exact NoB.ow _ | assumption)); simp only [List.set_cons_succ, List.set_cons_zero]) | ((with_reducible apply put1_nw); (focus rfl); (focus (first | exact NoB.fz _ | exact NoB.un | exact NoB.ow _ | assumption)); simp only [List.set_cons_succ, List.set_cons_zero]) | ((with_reducible apply gn_fz); (focus rfl); (focus (first | exact NoB.fz _ | exact NoB.un | exact NoB.ow _ | assumption)); simp only [List.set_cons_succ, List.set_cons_zero]) | ((with_reducible apply tup_k); (focus rfl); (focus (first | decide | (simp only [List.length_cons, List.length_nil]; decide)))) | ((with_reducible apply pk2); (focus rfl); (focus rfl); (focus (first | exact f_add _ _ | exact f_sub _ _ | exact f_lt _ _ | exact f_le _ _ | exact f_gt _ _ | exact f_ge _ _ | exact f_mod (by first | assumption | omega) | exact f_mulr (by first | assumption | omega) | exact f_mull (by first | assumption | omega) | exact f_div (by first | assumption | omega) | exact f_ix (at_ints (by first | assumption | omega)) | rfl))) | ((with_reducible apply pk1); (focus rfl); (focus rfl)) | ((with_reducible apply pks_fz); (focus rfl); (focus rfl)) | ((with_reducible apply pks_nw); (focus rfl); (focus rfl)) | ((with_reducible apply wp_aug (o' := .fz .none)); (focus rfl)) | ((with_reducible apply aug_k); (focus rfl); (focus (first | exact f_aug _ _ | exact f_sub _ _ | rfl))) | ((with_reducible apply fzk_ow); (focus rfl); simp only [List.set_cons_succ, List.set_cons_zero]) | ((with_reducible apply wp_mut); (focus rfl); (focus rfl)) | ((with_reducible apply mut_k); (focus rfl); (focus rfl); (focus (first | exact app_ints (by first | assumption | omega) | exact app_T (by first | assumption | omega))); simp only [List.set_cons_succ, List.set_cons_zero]) | ((with_reducible apply wp_call_next); (focus rfl); (focus rfl); (focus rfl); (focus (first | assumption | decide | omega)); simp only [List.set_cons_succ, List.set_cons_zero])))
    exact k ds rest (by omega)
theorem emod_bd (x : Int) : 0 ≤ x % 65537 ∧ x % 65537 < 65537 := ⟨Int.emod_nonneg _ (by decide), Int.emod_lt_of_pos _ (by decide)⟩
def DrI (ns : List Int) (many : Int) (L : Nat) (cs : Cs) : Prop := ∃ (ds : List Int) (mx : Int) (a b c d : Cell), cs = [.fz (.list (ns.map .int)), .fz (.int many), .ow (.list (ds.map .int)), .fz (.int mx), a, b, c, d] ∧ ds.length ≤ L ∧ 0 ≤ mx ∧ mx < 65537 ∧ NoB a ∧ NoB b ∧ NoB c ∧ NoB d
def cutI (ns : List Int) (lo hi : Option Int) : List Int := (ns.drop (HT.sIx ns.length 0 lo)).take (HT.sIx ns.length ns.length hi - HT.sIx ns.length 0 lo)
theorem cut_map (ns : List Int) (lo hi : Option Int) : cutT (ns.map .int) lo hi = (cutI ns lo hi).map .int := by
  unfold cutT cutI
  rw [List.length_map, ← List.map_drop, ← List.map_take]
theorem draws_run (ns : List Int) (hl : ns.length ≤ 63) (many : Nat) (hm : many ≤ 5000) : ∃ ds : List Int, Wp (runF 6 tDraws [.fz (.list (ns.map .int)), .fz (.int (many : Int))]) fun o _ => o = .nw (.list (ds.map .int)) := by
  suffices h : Wp (runF 6 tDraws [.fz (.list (ns.map .int)), .fz (.int (many : Int))]) fun o _ => ∃ ds : List Int, o = .nw (.list (ds.map .int)) by
    obtain ⟨o, c, e, ds, q⟩ := h
    exact ⟨ds, o, c, e, q⟩
  refine run_of ?_
  have sz := szb
  simp only [List.cons_append, List.nil_append, List.replicate]
  unfold tDraws
  (repeat (first | (with_reducible refine wp_C ?_) | (with_reducible refine wp_op ?_) | (with_reducible refine wp_seq ?_) | (with_reducible refine wp_sset ?_) | (with_reducible refine wp_Fz ?_) | (with_reducible refine wp_cons ?_) | (with_reducible refine wp_nil ?_) | (with_reducible refine wp_call ?_) | (with_reducible refine wp_tup ?_) | (with_reducible refine wp_lst ?_) | (with_reducible refine wp_asB ?_) | (with_reducible refine asb_k ?_) | (with_reducible refine fzk_fz ?_) | (with_reducible refine fzk_nw ?_) | (with_reducible refine wp_un ?_) | (with_reducible refine wp_sret ?_) | (with_reducible refine outk_fz ?_) | (with_reducible refine outk_nw ?_) | (with_reducible refine wp_sexpr ?_) | (with_reducible refine wp_sif ?_) | (with_reducible refine wp_snil ?_) | (with_reducible refine wp_sbreak ?_) | (with_reducible refine thn_nx ?_) | (with_reducible refine thn_rt ?_) | (with_reducible refine thn_bk ?_) | (with_reducible refine wp_tnot ?_) | (with_reducible refine wp_tand ?_) | (with_reducible refine wp_tor ?_) | (with_reducible refine wp_mif ?_) | (with_reducible refine wp_not ?_) | (with_reducible refine wp_and ?_) | (with_reducible refine br_t ?_) | (with_reducible refine br_f ?_) | (with_reducible refine wp_keep ?_) | (with_reducible refine parv_fz ?_) | (with_reducible refine parv_nw ?_) | (with_reducible refine wp_par ?_) | (with_reducible refine wp_par3 ?_) | ((with_reducible apply wp_V); (focus rfl)) | ((with_reducible apply wp_Vo); (focus rfl)) | ((with_reducible apply wp_Vb); (focus rfl)) | ((with_reducible apply outk_ow); (focus rfl)) | ((with_reducible apply setk_fz); (focus rfl); (focus (first | exact NoB.fz _ | exact NoB.un | exact NoB.ow _ | assumption)); simp only [List.set_cons_succ, List.set_cons_zero]) | ((with_reducible apply setk_nw); (focus rfl); (focus (first | exact NoB.fz _ | exact NoB.un | exact NoB.ow _ | assumption)); simp only [List.set_cons_succ, List.set_cons_zero]) | ((with_reducible apply put1_fz); (focus rfl); (focus (first | exact NoB.fz _ | exact NoB.un | exact NoB.ow _ | assumption)); simp only [List.set_cons_succ, List.set_cons_zero]) | ((with_reducible apply put1_nw); (focus rfl); (focus (first | exact NoB.fz _ | exact NoB.un | exact NoB.ow _ | assumption)); simp only [List.set_cons_succ, List.set_cons_zero]) | ((with_reducible apply gn_fz); (focus rfl); (focus (first | exact NoB.fz _ | exact NoB.un | exact NoB.ow _ | assumption)); simp only [List.set_cons_succ, List.set_cons_zero]) | ((with_reducible apply tup_k); (focus rfl); (focus (first | decide | (simp only [List.length_cons, List.length_nil]; decide)))) | ((with_reducible apply pk2); (focus rfl); (focus rfl); (focus (first | exact f_add _ _ | exact f_sub _ _ | exact f_lt _ _ | exact f_le _ _ | exact f_gt _ _ | exact f_ge _ _ | exact f_mod (by first | assumption | omega) | exact f_mulr (by first | assumption | omega) | exact f_mull (by first | assumption | omega) | exact f_div (by first | assumption | omega) | exact f_ix (at_ints (by first | assumption | omega)) | rfl))) | ((with_reducible apply pk1); (focus rfl); (focus rfl)) | ((with_reducible apply pks_fz); (focus rfl); (focus rfl)) | ((with_reducible apply pks_nw); (focus rfl); (focus rfl)) | ((with_reducible apply wp_aug (o' := .fz .none)); (focus rfl)) | ((with_reducible apply aug_k); (focus rfl); (focus (first | exact f_aug _ _ | exact f_sub _ _ | rfl))) | ((with_reducible apply fzk_ow); (focus rfl); simp only [List.set_cons_succ, List.set_cons_zero]) | ((with_reducible apply wp_mut); (focus rfl); (focus rfl)) | ((with_reducible apply mut_k); (focus rfl); (focus rfl); (focus (first | exact app_ints (by first | assumption | omega) | exact app_T (by first | assumption | omega))); simp only [List.set_cons_succ, List.set_cons_zero]) | ((with_reducible apply wp_call_next); (focus rfl); (focus rfl); (focus rfl); (focus (first | assumption | decide | omega)); simp only [List.set_cons_succ, List.set_cons_zero])))
  refine for_ok (fun k => DrI ns many (62 * k)) (c0 := [Cell.fz (.list (ns.map .int)), .fz (.int (many : Int)), .ow (.list []), .fz (.int 7), .un, .un, .un, .un]) (ts := rngT 0 ns.length) ?_ ⟨[], 7, _, _, _, _, rfl, by simp, by omega, by omega, .un, .un, .un, .un⟩ ?_ ?_
  · exact irng1 (len_at rfl rfl (by rw [List.length_map])) (by omega)
  · rintro k t _ et ⟨ds, mx, a, b, c, d, rfl, h1, h2, h3, na, nb, nc, nd⟩
    obtain ⟨hk, rfl⟩ := rng_get et
    rw [Int.zero_add]
    (repeat (first | (with_reducible refine wp_C ?_) | (with_reducible refine wp_op ?_) | (with_reducible refine wp_seq ?_) | (with_reducible refine wp_sset ?_) | (with_reducible refine wp_Fz ?_) | (with_reducible refine wp_cons ?_) | (with_reducible refine wp_nil ?_) | (with_reducible refine wp_call ?_) | (with_reducible refine wp_tup ?_) | (with_reducible refine wp_lst ?_) | (with_reducible refine wp_asB ?_) | (with_reducible refine asb_k ?_) | (with_reducible refine fzk_fz ?_) | (with_reducible refine fzk_nw ?_) | (with_reducible refine wp_un ?_) | (with_reducible refine wp_sret ?_) | (with_reducible refine outk_fz ?_) | (with_reducible refine outk_nw ?_) | (with_reducible refine wp_sexpr ?_) | (with_reducible refine wp_sif ?_) | (with_reducible refine wp_snil ?_) | (with_reducible refine wp_sbreak ?_) | (with_reducible refine thn_nx ?_) | (with_reducible refine thn_rt ?_) | (with_reducible refine thn_bk ?_) | (with_reducible refine wp_tnot ?_) | (with_reducible refine wp_tand ?_) | (with_reducible refine wp_tor ?_) | (with_reducible refine wp_mif ?_) | (with_reducible refine wp_not ?_) | (with_reducible refine wp_and ?_) | (with_reducible refine br_t ?_) | (with_reducible refine br_f ?_) | (with_reducible refine wp_keep ?_) | (with_reducible refine parv_fz ?_) | (with_reducible refine parv_nw ?_) | (with_reducible refine wp_par ?_) | (with_reducible refine wp_par3 ?_) | ((with_reducible apply wp_V); (focus rfl)) | ((with_reducible apply wp_Vo); (focus rfl)) | ((with_reducible apply wp_Vb); (focus rfl)) | ((with_reducible apply outk_ow); (focus rfl)) | ((with_reducible apply setk_fz); (focus rfl); (focus (first | exact NoB.fz _ | exact NoB.un | exact NoB.ow _ | assumption)); simp only [List.set_cons_succ, List.set_cons_zero]) | ((with_reducible apply setk_nw); (focus rfl); (focus (first | exact NoB.fz _ | exact NoB.un | exact NoB.ow _ | assumption)); simp only [List.set_cons_succ, List.set_cons_zero]) | ((with_reducible apply put1_fz); (focus rfl); (focus (first | exact NoB.fz _ | exact NoB.un | exact NoB.ow _ | assumption)); simp only [List.set_cons_succ, List.set_cons_zero]) | ((with_reducible apply put1_nw); (focus rfl); (focus (first | exact NoB.fz _ | exact NoB.un | exact NoB.ow _ | assumption)); simp only [List.set_cons_succ, List.set_cons_zero]) | ((with_reducible apply gn_fz); (focus rfl); (focus (first | exact NoB.fz _ | exact NoB.un | exact NoB.ow _ | assumption)); simp only [List.set_cons_succ, List.set_cons_zero]) | ((with_reducible apply tup_k); (focus rfl); (focus (first | decide | (simp only [List.length_cons, List.length_nil]; decide)))) | ((with_reducible apply pk2); (focus rfl); (focus rfl); (focus (first | exact f_add _ _ | exact f_sub _ _ | exact f_lt _ _ | exact f_le _ _ | exact f_gt _ _ | exact f_ge _ _ | exact f_mod (by first | assumption | omega) | exact f_mulr (by first | assumption | omega) | exact f_mull (by first | assumption | omega) | exact f_div (by first | assumption | omega) | exact f_ix (at_ints (by first | assumption | omega)) | rfl))) | ((with_reducible apply pk1); (focus rfl); (focus rfl)) | ((with_reducible apply pks_fz); (focus rfl); (focus rfl)) | ((with_reducible apply pks_nw); (focus rfl); (focus rfl)) | ((with_reducible apply wp_aug (o' := .fz .none)); (focus rfl)) | ((with_reducible apply aug_k); (focus rfl); (focus (first | exact f_aug _ _ | exact f_sub _ _ | rfl))) | ((with_reducible apply fzk_ow); (focus rfl); simp only [List.set_cons_succ, List.set_cons_zero]) | ((with_reducible apply wp_mut); (focus rfl); (focus rfl)) | ((with_reducible apply mut_k); (focus rfl); (focus rfl); (focus (first | exact app_ints (by first | assumption | omega) | exact app_T (by first | assumption | omega))); simp only [List.set_cons_succ, List.set_cons_zero]) | ((with_reducible apply wp_call_next); (focus rfl); (focus rfl); (focus rfl); (focus (first | assumption | decide | omega)); simp only [List.set_cons_succ, List.set_cons_zero])))
    obtain ⟨x, ex⟩ : ∃ x : Int, x = if ns[k] < 0 then -ns[k] else ns[k] := ⟨_, rfl⟩
    rw [← ex]
    have mb := emod_bd (mx * 48271 + x % 1000003 + (k : Int))
    generalize (mx * 48271 + x % 1000003 + (k : Int)) % 65537 = mx2 at mb ⊢
    have rest : ∀ (Q0 : Fl → Cs → Prop) (ds' : List Int) (r : Int), ds'.length ≤ ds.length + 2 → Wp (sFor (iRange (mCons (mC (.int 60)) mNil)) (gN 7) (sIf (asB (mOp gtI (mV 6) (mC (.int 0)))) (sSeq (sExpr (mMut 2 "list" appT (mCons (mFz (mOp modT (mCall toIntT (mCons (mV 6) mNil)) (mC (.int 997)))) mNil)))
      (sSet 6 (mOp divT (mV 6) (mC (.int 997))))) sNil) [Cell.fz (.list (ns.map .int)), .fz (.int (many : Int)), .ow (.list (List.map .int ds')), .fz (.int mx2), .fz (.int (k : Int)), .fz (.int x), .fz (.int r), d]) (Lp Q0 (DrI ns many (62 * (k + 1)))) := fun Q0 ds' rest hd' => by
      refine for_ok (fun j cs => ∃ (ds2 : List Int) (r : Int) (d2 : Cell), cs = [Cell.fz (.list (ns.map .int)), .fz (.int (many : Int)), .ow (.list (ds2.map .int)), .fz (.int mx2), .fz (.int (k : Int)), .fz (.int x), .fz (.int r), d2] ∧ ds2.length ≤ ds'.length + j ∧ NoB d2) (c0 := [Cell.fz (.list (ns.map .int)), .fz (.int (many : Int)), .ow (.list (ds'.map .int)), .fz (.int mx2), .fz (.int (k : Int)), .fz (.int x), .fz (.int rest), d]) (ts := rngT 0 60) rfl ⟨ds', rest, d, rfl, by omega, nd⟩ ?_ ?_
      · rintro j t _ et ⟨ds2, r, d2, rfl, h4, h5⟩
        obtain ⟨hj, rfl⟩ := rng_get et
        refine dr_step (by omega) h5 _ _ fun ds3 r3 h6 => ⟨ds3, r3, _, rfl, by omega, .fz _⟩
      · rintro _ ⟨ds2, r, d2, rfl, h4, h5⟩
        rw [rng_len] at h4
        exact ⟨ds2, mx2, _, _, _, _, rfl, by omega, mb.1, mb.2, .fz _, .fz _, .fz _, h5⟩
    constructor
    · intro h
      (repeat (first | (with_reducible refine wp_C ?_) | (with_reducible refine wp_op ?_) | (with_reducible refine wp_seq ?_) | (with_reducible refine wp_sset ?_) | (with_reducible refine wp_Fz ?_) | (with_reducible refine wp_cons ?_) | (with_reducible refine wp_nil ?_) | (with_reducible refine wp_call ?_) | (with_reducible refine wp_tup ?_) | (with_reducible refine wp_lst ?_) | (with_reducible refine wp_asB ?_) | (with_reducible refine asb_k ?_) | (with_reducible refine fzk_fz ?_) | (with_reducible refine fzk_nw ?_) | (with_reducible refine wp_un ?_) | (with_reducible refine wp_sret ?_) | (with_reducible refine outk_fz ?_) | (with_reducible refine outk_nw ?_) | (with_reducible refine wp_sexpr ?_) | (with_reducible refine wp_sif ?_) | (with_reducible refine wp_snil ?_) | (with_reducible refine wp_sbreak ?_) | (with_reducible refine thn_nx ?_) | (with_reducible refine thn_rt ?_) | (with_reducible refine thn_bk ?_) | (with_reducible refine wp_tnot ?_) | (with_reducible refine wp_tand ?_) | (with_reducible refine wp_tor ?_) | (with_reducible refine wp_mif ?_) | (with_reducible refine wp_not ?_) | (with_reducible refine wp_and ?_) | (with_reducible refine br_t ?_) | (with_reducible refine br_f ?_) | (with_reducible refine wp_keep ?_) | (with_reducible refine parv_fz ?_) | (with_reducible refine parv_nw ?_) | (with_reducible refine wp_par ?_) | (with_reducible refine wp_par3 ?_) | ((with_reducible apply wp_V); (focus rfl)) | ((with_reducible apply wp_Vo); (focus rfl)) | ((with_reducible apply wp_Vb); (focus rfl)) | ((with_reducible apply outk_ow); (focus rfl)) | ((with_reducible apply setk_fz); (focus rfl); (focus (first | exact NoB.fz _ | exact NoB.un | exact NoB.ow _ | assumption)); simp only [List.set_cons_succ, List.set_cons_zero]) | ((with_reducible apply setk_nw); (focus rfl); (focus (first | exact NoB.fz _ | exact NoB.un | exact NoB.ow _ | assumption)); simp only [List.set_cons_succ, List.set_cons_zero]) | ((with_reducible apply put1_fz); (focus rfl); (focus (first | exact NoB.fz _ | exact NoB.un | exact NoB.ow _ | assumption)); simp only [List.set_cons_succ, List.set_cons_zero]) | ((with_reducible apply put1_nw); (focus rfl); (focus (first | exact NoB.fz _ | exact NoB.un | exact NoB.ow _ | assumption)); simp only [List.set_cons_succ, List.set_cons_zero]) | ((with_reducible apply gn_fz); (focus rfl); (focus (first | exact NoB.fz _ | exact NoB.un | exact NoB.ow _ | assumption)); simp only [List.set_cons_succ, List.set_cons_zero]) | ((with_reducible apply tup_k); (focus rfl); (focus (first | decide | (simp only [List.length_cons, List.length_nil]; decide)))) | ((with_reducible apply pk2); (focus rfl); (focus rfl); (focus (first | exact f_add _ _ | exact f_sub _ _ | exact f_lt _ _ | exact f_le _ _ | exact f_gt _ _ | exact f_ge _ _ | exact f_mod (by first | assumption | omega) | exact f_mulr (by first | assumption | omega) | exact f_mull (by first | assumption | omega) | exact f_div (by first | assumption | omega) | exact f_ix (at_ints (by first | assumption | omega)) | rfl))) | ((with_reducible apply pk1); (focus rfl); (focus rfl)) | ((with_reducible apply pks_fz); (focus rfl); (focus rfl)) | ((with_reducible apply pks_nw); (focus rfl); (focus rfl)) | ((with_reducible apply wp_aug (o' := .fz .none)); (focus rfl)) | ((with_reducible apply aug_k); (focus rfl); (focus (first | exact f_aug _ _ | exact f_sub _ _ | rfl))) | ((with_reducible apply fzk_ow); (focus rfl); simp only [List.set_cons_succ, List.set_cons_zero]) | ((with_reducible apply wp_mut); (focus rfl); (focus rfl)) | ((with_reducible apply mut_k); (focus rfl); (focus rfl); (focus (first | exact app_ints (by first | assumption | omega) | exact app_T (by first | assumption | omega))); simp only [List.set_cons_succ, List.set_cons_zero]) | ((with_reducible apply wp_call_next); (focus rfl); (focus rfl); (focus rfl); (focus (first | assumption | decide | omega)); simp only [List.set_cons_succ, List.set_cons_zero])))
      exact rest _ ds x (by omega)
    · intro h
      (repeat (first | (with_reducible refine wp_C ?_) | (with_reducible refine wp_op ?_) | (with_reducible refine wp_seq ?_) | (with_reducible refine wp_sset ?_) | (with_reducible refine wp_Fz ?_) | (with_reducible refine wp_cons ?_) | (with_reducible refine wp_nil ?_) | (with_reducible refine wp_call ?_) | (with_reducible refine wp_tup ?_) | (with_reducible refine wp_lst ?_) | (with_reducible refine wp_asB ?_) | (with_reducible refine asb_k ?_) | (with_reducible refine fzk_fz ?_) | (with_reducible refine fzk_nw ?_) | (with_reducible refine wp_un ?_) | (with_reducible refine wp_sret ?_) | (with_reducible refine outk_fz ?_) | (with_reducible refine outk_nw ?_) | (with_reducible refine wp_sexpr ?_) | (with_reducible refine wp_sif ?_) | (with_reducible refine wp_snil ?_) | (with_reducible refine wp_sbreak ?_) | (with_reducible refine thn_nx ?_) | (with_reducible refine thn_rt ?_) | (with_reducible refine thn_bk ?_) | (with_reducible refine wp_tnot ?_) | (with_reducible refine wp_tand ?_) | (with_reducible refine wp_tor ?_) | (with_reducible refine wp_mif ?_) | (with_reducible refine wp_not ?_) | (with_reducible refine wp_and ?_) | (with_reducible refine br_t ?_) | (with_reducible refine br_f ?_) | (with_reducible refine wp_keep ?_) | (with_reducible refine parv_fz ?_) | (with_reducible refine parv_nw ?_) | (with_reducible refine wp_par ?_) | (with_reducible refine wp_par3 ?_) | ((with_reducible apply wp_V); (focus rfl)) | ((with_reducible apply wp_Vo); (focus rfl)) | ((with_reducible apply wp_Vb); (focus rfl)) | ((with_reducible apply outk_ow); (focus rfl)) | ((with_reducible apply setk_fz); (focus rfl); (focus (first | exact NoB.fz _ | exact NoB.un | exact NoB.ow _ | assumption)); simp only [List.set_cons_succ, List.set_cons_zero]) | ((with_reducible apply setk_nw); (focus rfl); (focus (first | exact NoB.fz _ | exact NoB.un | exact NoB.ow _ | assumption)); simp only [List.set_cons_succ, List.set_cons_zero]) | ((with_reducible apply put1_fz); (focus rfl); (focus (first | exact NoB.fz _ | exact NoB.un | exact NoB.ow _ | assumption)); simp only [List.set_cons_succ, List.set_cons_zero]) | ((with_reducible apply put1_nw); (focus rfl); (focus (first | exact NoB.fz _ | exact NoB.un | exact NoB.ow _ | assumption)); simp only [List.set_cons_succ, List.set_cons_zero]) | ((with_reducible apply gn_fz); (focus rfl); (focus (first | exact NoB.fz _ | exact NoB.un | exact NoB.ow _ | assumption)); simp only [List.set_cons_succ, List.set_cons_zero]) | ((with_reducible apply tup_k); (focus rfl); (focus (first | decide | (simp only [List.length_cons, List.length_nil]; decide)))) | ((with_reducible apply pk2); (focus rfl); (focus rfl); (focus (first | exact f_add _ _ | exact f_sub _ _ | exact f_lt _ _ | exact f_le _ _ | exact f_gt _ _ | exact f_ge _ _ | exact f_mod (by first | assumption | omega) | exact f_mulr (by first | assumption | omega) | exact f_mull (by first | assumption | omega) | exact f_div (by first | assumption | omega) | exact f_ix (at_ints (by first | assumption | omega)) | rfl))) | ((with_reducible apply pk1); (focus rfl); (focus rfl)) | ((with_reducible apply pks_fz); (focus rfl); (focus rfl)) | ((with_reducible apply pks_nw); (focus rfl); (focus rfl)) | ((with_reducible apply wp_aug (o' := .fz .none)); (focus rfl)) | ((with_reducible apply aug_k); (focus rfl); (focus (first | exact f_aug _ _ | exact f_sub _ _ | rfl))) | ((with_reducible apply fzk_ow); (focus rfl); simp only [List.set_cons_succ, List.set_cons_zero]) | ((with_reducible apply wp_mut); (focus rfl); (focus rfl)) | ((with_reducible apply mut_k); (focus rfl); (focus rfl); (focus (first | exact app_ints (by first | assumption | omega) | exact app_T (by first | assumption | omega))); simp only [List.set_cons_succ, List.set_cons_zero]) | ((with_reducible apply wp_call_next); (focus rfl); (focus rfl); (focus rfl); (focus (first | assumption | decide | omega)); simp only [List.set_cons_succ, List.set_cons_zero])))
      have hq : (ds ++ [x % 997]).length < sizeLine := by simp; omega
      (repeat (first | (with_reducible refine wp_C ?_) | (with_reducible refine wp_op ?_) | (with_reducible refine wp_seq ?_) | (with_reducible refine wp_sset ?_) | (with_reducible refine wp_Fz ?_) | (with_reducible refine wp_cons ?_) | (with_reducible refine wp_nil ?_) | (with_reducible refine wp_call ?_) | (with_reducible refine wp_tup ?_) | (with_reducible refine wp_lst ?_) | (with_reducible refine wp_asB ?_) | (with_reducible refine asb_k ?_) | (with_reducible refine fzk_fz ?_) | (with_reducible refine fzk_nw ?_) | (with_reducible refine wp_un ?_) | (with_reducible refine wp_sret ?_) | (with_reducible refine outk_fz ?_) | (with_reducible refine outk_nw ?_) | (with_reducible refine wp_sexpr ?_) | (with_reducible refine wp_sif ?_) | (with_reducible refine wp_snil ?_) | (with_reducible refine wp_sbreak ?_) | (with_reducible refine thn_nx ?_) | (with_reducible refine thn_rt ?_) | (with_reducible refine thn_bk ?_) | (with_reducible refine wp_tnot ?_) | (with_reducible refine wp_tand ?_) | (with_reducible refine wp_tor ?_) | (with_reducible refine wp_mif ?_) | (with_reducible refine wp_not ?_) | (with_reducible refine wp_and ?_) | (with_reducible refine br_t ?_) | (with_reducible refine br_f ?_) | (with_reducible refine wp_keep ?_) | (with_reducible refine parv_fz ?_) | (with_reducible refine parv_nw ?_) | (with_reducible refine wp_par ?_) | (with_reducible refine wp_par3 ?_) | ((with_reducible apply wp_V); (focus rfl)) | ((with_reducible apply wp_Vo); (focus rfl)) | ((with_reducible apply wp_Vb); (focus rfl)) | ((with_reducible apply outk_ow); (focus rfl)) | ((with_reducible apply setk_fz); (focus rfl); (focus (first | exact NoB.fz _ | exact NoB.un | exact NoB.ow _ | assumption)); simp only [List.set_cons_succ, List.set_cons_zero]) | ((with_reducible apply setk_nw); (focus rfl); (focus (first | exact NoB.fz _ | exact NoB.un | exact NoB.ow _ | assumption)); simp only [List.set_cons_succ, List.set_cons_zero]) | ((with_reducible apply put1_fz); (focus rfl); (focus (first | exact NoB.fz _ | exact NoB.un | exact NoB.ow _ | assumption)); simp only [List.set_cons_succ, List.set_cons_zero]) | ((with_reducible apply put1_nw); (focus rfl); (focus (first | exact NoB.fz _ | exact NoB.un | exact NoB.ow _ | assumption)); simp only [List.set_cons_succ, List.set_cons_zero]) | ((with_reducible apply gn_fz); (focus rfl); (focus (first | exact NoB.fz _ | exact NoB.un | exact NoB.ow _ | assumption)); simp only [List.set_cons_succ, List.set_cons_zero]) | ((with_reducible apply tup_k); (focus rfl); (focus (first | decide | (simp only [List.length_cons, List.length_nil]; decide)))) | ((with_reducible apply pk2); (focus rfl); (focus rfl); (focus (first | exact f_add _ _ | exact f_sub _ _ | exact f_lt _ _ | exact f_le _ _ | exact f_gt _ _ | exact f_ge _ _ | exact f_mod (by first | assumption | omega) | exact f_mulr (by first | assumption | omega) | exact f_mull (by first | assumption | omega) | exact f_div (by first | assumption | omega) | exact f_ix (at_ints (by first | assumption | omega)) | rfl))) | ((with_reducible apply pk1); (focus rfl); (focus rfl)) | ((with_reducible apply pks_fz); (focus rfl); (focus rfl)) | ((with_reducible apply pks_nw); (focus rfl); (focus rfl)) | ((with_reducible apply wp_aug (o' := .fz .none)); (focus rfl)) | ((with_reducible apply aug_k); (focus rfl); (focus (first | exact f_aug _ _ | exact f_sub _ _ | rfl))) | ((with_reducible apply fzk_ow); (focus rfl); simp only [List.set_cons_succ, List.set_cons_zero]) | ((with_reducible apply wp_mut); (focus rfl); (focus rfl)) | ((with_reducible apply mut_k); (focus rfl); (focus rfl); (focus (first | exact app_ints (by first | assumption | omega) | exact app_T (by first | assumption | omega))); simp only [List.set_cons_succ, List.set_cons_zero]) | ((with_reducible apply wp_call_next); (focus rfl); (focus rfl); (focus rfl); (focus (first | assumption | decide | omega)); simp only [List.set_cons_succ, List.set_cons_zero])))
      exact rest _ (ds ++ [x % 997] ++ [(mx2 * 69621 + 5) % 65521 % 997]) 0 (by simp)
  · rintro _ ⟨ds, mx, a, b, c, d, rfl, h1, h2, h3, na, nb, nc, nd⟩
    rw [rng_len] at h1
    refine thn_nx (wp_seq (for_ok (fun k => DrI ns many (4000 + k)) (ts := rngT 0 many) (c0 := [.fz (.list (ns.map .int)), .fz (.int many), .ow (.list (ds.map .int)), .fz (.int mx), a, b, c, d]) (irng1 rfl (by omega)) ⟨ds, mx, _, _, _, _, rfl, by omega, h2, h3, na, nb, nc, nd⟩ ?_ ?_))
    · rintro k t _ et ⟨ds, mx, a, b, c, d, rfl, h1, h2, h3, na, nb, nc, nd⟩
      obtain ⟨hk, rfl⟩ := rng_get et
      have mb := emod_bd (mx * 16807 + (0 + (k : Int)) + 1)
      have hlt : ds.length < sizeLine := by omega
      (repeat (first | (with_reducible refine wp_C ?_) | (with_reducible refine wp_op ?_) | (with_reducible refine wp_seq ?_) | (with_reducible refine wp_sset ?_) | (with_reducible refine wp_Fz ?_) | (with_reducible refine wp_cons ?_) | (with_reducible refine wp_nil ?_) | (with_reducible refine wp_call ?_) | (with_reducible refine wp_tup ?_) | (with_reducible refine wp_lst ?_) | (with_reducible refine wp_asB ?_) | (with_reducible refine asb_k ?_) | (with_reducible refine fzk_fz ?_) | (with_reducible refine fzk_nw ?_) | (with_reducible refine wp_un ?_) | (with_reducible refine wp_sret ?_) | (with_reducible refine outk_fz ?_) | (with_reducible refine outk_nw ?_) | (with_reducible refine wp_sexpr ?_) | (with_reducible refine wp_sif ?_) | (with_reducible refine wp_snil ?_) | (with_reducible refine wp_sbreak ?_) | (with_reducible refine thn_nx ?_) | (with_reducible refine thn_rt ?_) | (with_reducible refine thn_bk ?_) | (with_reducible refine wp_tnot ?_) | (with_reducible refine wp_tand ?_) | (with_reducible refine wp_tor ?_) | (with_reducible refine wp_mif ?_) | (with_reducible refine wp_not ?_) | (with_reducible refine wp_and ?_) | (with_reducible refine br_t ?_) | (with_reducible refine br_f ?_) | (with_reducible refine wp_keep ?_) | (with_reducible refine parv_fz ?_) | (with_reducible refine parv_nw ?_) | (with_reducible refine wp_par ?_) | (with_reducible refine wp_par3 ?_) | ((with_reducible apply wp_V); (focus rfl)) | ((with_reducible apply wp_Vo); (focus rfl)) | ((with_reducible apply wp_Vb); (focus rfl)) | ((with_reducible apply outk_ow); (focus rfl)) | ((with_reducible apply setk_fz); (focus rfl); (focus (first | exact NoB.fz _ | exact NoB.un | exact NoB.ow _ | assumption)); simp only [List.set_cons_succ, List.set_cons_zero]) | ((with_reducible apply setk_nw); (focus rfl); (focus (first | exact NoB.fz _ | exact NoB.un | exact NoB.ow _ | assumption)); simp only [List.set_cons_succ, List.set_cons_zero]) | ((with_reducible apply put1_fz); (focus rfl); (focus (first | exact NoB.fz _ | exact NoB.un | exact NoB.ow _ | assumption)); simp only [List.set_cons_succ, List.set_cons_zero]) | ((with_reducible apply put1_nw); (focus rfl); (focus (first | exact NoB.fz _ | exact NoB.un | exact NoB.ow _ | assumption)); simp only [List.set_cons_succ, List.set_cons_zero]) | ((with_reducible apply gn_fz); (focus rfl); (focus (first | exact NoB.fz _ | exact NoB.un | exact NoB.ow _ | assumption)); simp only [List.set_cons_succ, List.set_cons_zero]) | ((with_reducible apply tup_k); (focus rfl); (focus (first | decide | (simp only [List.length_cons, List.length_nil]; decide)))) | ((with_reducible apply pk2); (focus rfl); (focus rfl); (focus (first | exact f_add _ _ | exact f_sub _ _ | exact f_lt _ _ | exact f_le _ _ | exact f_gt _ _ | exact f_ge _ _ | exact f_mod (by first | assumption | omega) | exact f_mulr (by first | assumption | omega) | exact f_mull (by first | assumption | omega) | exact f_div (by first | assumption | omega) | exact f_ix (at_ints (by first | assumption | omega)) | rfl))) | ((with_reducible apply pk1); (focus rfl); (focus rfl)) | ((with_reducible apply pks_fz); (focus rfl); (focus rfl)) | ((with_reducible apply pks_nw); (focus rfl); (focus rfl)) | ((with_reducible apply wp_aug (o' := .fz .none)); (focus rfl)) | ((with_reducible apply aug_k); (focus rfl); (focus (first | exact f_aug _ _ | exact f_sub _ _ | rfl))) | ((with_reducible apply fzk_ow); (focus rfl); simp only [List.set_cons_succ, List.set_cons_zero]) | ((with_reducible apply wp_mut); (focus rfl); (focus rfl)) | ((with_reducible apply mut_k); (focus rfl); (focus rfl); (focus (first | exact app_ints (by first | assumption | omega) | exact app_T (by first | assumption | omega))); simp only [List.set_cons_succ, List.set_cons_zero]) | ((with_reducible apply wp_call_next); (focus rfl); (focus rfl); (focus rfl); (focus (first | assumption | decide | omega)); simp only [List.set_cons_succ, List.set_cons_zero])))
      exact ⟨_, _, _, _, _, _, rfl, by simp; omega, mb.1, mb.2, .fz _, nb, nc, nd⟩
    · rintro _ ⟨ds, mx, a, b, c, d, rfl, h1, h2, h3, na, nb, nc, nd⟩
      refine thn_nx (wp_sret ?_)
      refine wp_eq (v := .nw (.list (cutT (ds.map .int) none (some many)))) (c := [.fz (.list (ns.map .int)), .fz (.int many), .ow (.list (ds.map .int)), .fz (.int mx), a, b, c, d]) rfl ?_
      (repeat (first | (with_reducible refine wp_C ?_) | (with_reducible refine wp_op ?_) | (with_reducible refine wp_seq ?_) | (with_reducible refine wp_sset ?_) | (with_reducible refine wp_Fz ?_) | (with_reducible refine wp_cons ?_) | (with_reducible refine wp_nil ?_) | (with_reducible refine wp_call ?_) | (with_reducible refine wp_tup ?_) | (with_reducible refine wp_lst ?_) | (with_reducible refine wp_asB ?_) | (with_reducible refine asb_k ?_) | (with_reducible refine fzk_fz ?_) | (with_reducible refine fzk_nw ?_) | (with_reducible refine wp_un ?_) | (with_reducible refine wp_sret ?_) | (with_reducible refine outk_fz ?_) | (with_reducible refine outk_nw ?_) | (with_reducible refine wp_sexpr ?_) | (with_reducible refine wp_sif ?_) | (with_reducible refine wp_snil ?_) | (with_reducible refine wp_sbreak ?_) | (with_reducible refine thn_nx ?_) | (with_reducible refine thn_rt ?_) | (with_reducible refine thn_bk ?_) | (with_reducible refine wp_tnot ?_) | (with_reducible refine wp_tand ?_) | (with_reducible refine wp_tor ?_) | (with_reducible refine wp_mif ?_) | (with_reducible refine wp_not ?_) | (with_reducible refine wp_and ?_) | (with_reducible refine br_t ?_) | (with_reducible refine br_f ?_) | (with_reducible refine wp_keep ?_) | (with_reducible refine parv_fz ?_) | (with_reducible refine parv_nw ?_) | (with_reducible refine wp_par ?_) | (with_reducible refine wp_par3 ?_) | ((with_reducible apply wp_V); (focus rfl)) | ((with_reducible apply wp_Vo); (focus rfl)) | ((with_reducible apply wp_Vb); (focus rfl)) | ((with_reducible apply outk_ow); (focus rfl)) | ((with_reducible apply setk_fz); (focus rfl); (focus (first | exact NoB.fz _ | exact NoB.un | exact NoB.ow _ | assumption)); simp only [List.set_cons_succ, List.set_cons_zero]) | ((with_reducible apply setk_nw); (focus rfl); (focus (first | exact NoB.fz _ | exact NoB.un | exact NoB.ow _ | assumption)); simp only [List.set_cons_succ, List.set_cons_zero]) | ((with_reducible apply put1_fz); (focus rfl); (focus (first | exact NoB.fz _ | exact NoB.un | exact NoB.ow _ | assumption)); simp only [List.set_cons_succ, List.set_cons_zero]) | ((with_reducible apply put1_nw); (focus rfl); (focus (first | exact NoB.fz _ | exact NoB.un | exact NoB.ow _ | assumption)); simp only [List.set_cons_succ, List.set_cons_zero]) | ((with_reducible apply gn_fz); (focus rfl); (focus (first | exact NoB.fz _ | exact NoB.un | exact NoB.ow _ | assumption)); simp only [List.set_cons_succ, List.set_cons_zero]) | ((with_reducible apply tup_k); (focus rfl); (focus (first | decide | (simp only [List.length_cons, List.length_nil]; decide)))) | ((with_reducible apply pk2); (focus rfl); (focus rfl); (focus (first | exact f_add _ _ | exact f_sub _ _ | exact f_lt _ _ | exact f_le _ _ | exact f_gt _ _ | exact f_ge _ _ | exact f_mod (by first | assumption | omega) | exact f_mulr (by first | assumption | omega) | exact f_mull (by first | assumption | omega) | exact f_div (by first | assumption | omega) | exact f_ix (at_ints (by first | assumption | omega)) | rfl))) | ((with_reducible apply pk1); (focus rfl); (focus rfl)) | ((with_reducible apply pks_fz); (focus rfl); (focus rfl)) | ((with_reducible apply pks_nw); (focus rfl); (focus rfl)) | ((with_reducible apply wp_aug (o' := .fz .none)); (focus rfl)) | ((with_reducible apply aug_k); (focus rfl); (focus (first | exact f_aug _ _ | exact f_sub _ _ | rfl))) | ((with_reducible apply fzk_ow); (focus rfl); simp only [List.set_cons_succ, List.set_cons_zero]) | ((with_reducible apply wp_mut); (focus rfl); (focus rfl)) | ((with_reducible apply mut_k); (focus rfl); (focus rfl); (focus (first | exact app_ints (by first | assumption | omega) | exact app_T (by first | assumption | omega))); simp only [List.set_cons_succ, List.set_cons_zero]) | ((with_reducible apply wp_call_next); (focus rfl); (focus rfl); (focus rfl); (focus (first | assumption | decide | omega)); simp only [List.set_cons_succ, List.set_cons_zero])))
      exact ⟨cutI ds none (some many), by rw [cut_map]⟩
end TL
namespace TY
open PySem PySem.Spec L2 TL

/-! ### how typed values stand as trees -/
abbrev En (α : Type) := α → T
section
variable {α β γ δ ε : Type}
def eI : En Int := fun n => .int n
def eB : En Bool := fun b => .bool b
def eN : En Unit := fun _ => .none
def eA : En T := fun t => t
def eL (e : En α) : En (List α) := fun xs => .list (xs.map e)
def eT (e : En α) : En (List α) := fun xs => .tuple (xs.map e)
def eO (e : En α) : En (Option α) := fun o => match o with
  | some a => e a
  | none => .none
def e1 (a : En α) : En α := fun p => .tuple [a p]
def e2 (a : En α) (b : En β) : En (α × β) := fun p => .tuple [a p.1, b p.2]
def e3 (a : En α) (b : En β) (c : En γ) : En (α × β × γ) := fun p => .tuple [a p.1, b p.2.1, c p.2.2]
def e4 (a : En α) (b : En β) (c : En γ) (d : En δ) : En (α × β × γ × δ) := fun p => .tuple [a p.1, b p.2.1, c p.2.2.1, d p.2.2.2]
def e5 (a : En α) (b : En β) (c : En γ) (d : En δ) (e : En ε) : En (α × β × γ × δ × ε) := fun p => .tuple [a p.1, b p.2.1, c p.2.2.1, d p.2.2.2.1, e p.2.2.2.2]
def eD (k : En α) (e : En β) : En (List (α × β)) := fun kvs => .dict (kvs.map fun p => (k p.1, e p.2))
end

/-! ### what is known of a slot, of a result -/
inductive Dc where
  | X
  | F (v : Nat)
  | R (v : Nat)
  | O (v : Nat)
  | B (v : Nat)
deriving DecidableEq
inductive Kd where
  | F | N
  | S (i : Nat)
  | V (i : Nat)
  | W | U
deriving DecidableEq
abbrev Tab := List (List T)
def acc (M : Tab) (i v : Nat) : T := ((M[i]?.getD [])[v]?).getD .none
def NB (x : Cell) : Prop := ∀ u, x ≠ .bo u
def okc (t : Nat → T) : Dc → Cell → Prop
  | .X, c => NB c
  | .F v, c => c = .fz (t v)
  | .R v, c => c = .fz (t v) ∨ c = .ow (t v)
  | .O v, c => c = .ow (t v)
  | .B v, c => c = .bo (t v)
def Rep (M : Tab) (D : List Dc) (c : Cs) : Prop := c.length = D.length ∧ ∀ (i : Nat) (d : Dc), D[i]? = some d → ∃ x, c[i]? = some x ∧ okc (acc M i) d x
def leD : Dc → Dc → Bool
  | .X, .X => true
  | .F _, .X => true
  | .R _, .X => true
  | .O _, .X => true
  | .F v, .F w => v == w
  | .F v, .R w => v == w
  | .O v, .O w => v == w
  | .O v, .R w => v == w
  | .R v, .R w => v == w
  | .B v, .B w => v == w
  | _, _ => false
def leDs : List Dc → List Dc → Bool
  | [], [] => true
  | a :: r, b :: q => leD a b && leDs r q
  | _, _ => false
def joD : Dc → Dc → Dc
  | .F v, .F w => if v = w then .F v else .X
  | .O v, .O w => if v = w then .O v else .X
  | .B v, .B w => if v = w then .B v else .X
  | .F v, .O w => if v = w then .R v else .X
  | .O v, .F w => if v = w then .R v else .X
  | .R v, .F w => if v = w then .R v else .X
  | .R v, .O w => if v = w then .R v else .X
  | .F v, .R w => if v = w then .R v else .X
  | .O v, .R w => if v = w then .R v else .X
  | .R v, .R w => if v = w then .R v else .X
  | _, _ => .X
def joDs (a b : List Dc) : List Dc := List.zipWith joD a b
theorem okc_le {t : Nat → T} {d d' : Dc} {x : Cell} (h : leD d d' = true) (o : okc t d x) : okc t d' x := by
  cases d <;> cases d' <;> simp only [leD, beq_iff_eq, Bool.false_eq_true] at h
  all_goals first
    | exact o
    | (subst h; first | exact o | exact .inl o | exact .inr o)
    | (intro u e; subst e; first | (rcases o with o | o <;> cases o) | cases o)
theorem leDs_get : ∀ {D D' : List Dc}, leDs D D' = true → D'.length = D.length ∧ ∀ (i : Nat) (d' : Dc), D'[i]? = some d' → ∃ d, D[i]? = some d ∧ leD d d' = true
  | [], [], _ => ⟨rfl, fun i d e => by simp at e⟩
  | a :: r, b :: q, h => by
    rw [leDs, Bool.and_eq_true] at h
    obtain ⟨l, k⟩ := leDs_get h.2
    refine ⟨by simp [l], fun i d e => ?_⟩
    cases i with
    | zero => simp at e; subst e; exact ⟨a, rfl, h.1⟩
    | succ i => simp at e; simpa using k i d e
  | [], _ :: _, h => by simp [leDs] at h
  | _ :: _, [], h => by simp [leDs] at h
theorem Rep.le {M : Tab} {D D' : List Dc} {c : Cs} (h : leDs D D' = true) (r : Rep M D c) : Rep M D' c := by
  obtain ⟨l, k⟩ := leDs_get h
  refine ⟨r.1.trans l.symm, fun i d' e => ?_⟩
  obtain ⟨d, e1, e2⟩ := k i d' e
  obtain ⟨x, e3, o⟩ := r.2 i d e1
  exact ⟨x, e3, okc_le e2 o⟩
/-- cells were frozen, nothing else -/
def Frz (c c' : Cs) : Prop := c'.length = c.length ∧ ∀ (i : Nat) (x : Cell), c[i]? = some x → c'[i]? = some x ∨ ∃ t, x = .ow t ∧ c'[i]? = some (.fz t)
theorem Frz.refl {c : Cs} : Frz c c := ⟨rfl, fun _ _ h => .inl h⟩
theorem Frz.trans {a b c : Cs} (h : Frz a b) (k : Frz b c) : Frz a c := ⟨k.1.trans h.1, fun i x e => by
  rcases h.2 i x e with e1 | ⟨t, rfl, e1⟩
  · exact k.2 i x e1
  · rcases k.2 i _ e1 with e2 | ⟨u, e2, _⟩
    · exact .inr ⟨t, rfl, e2⟩
    · cases e2⟩
def KdOk (k : Kd) (t : T) (r : Rs) (c : Cs) : Prop := match k with
  | .F => r = .fz t
  | .N => r = .nw t
  | .S i => r = .sl i ∧ (c[i]? = some (.ow t) ∨ c[i]? = some (.bo t))
  | .V i => (r = .fz t ∧ c[i]? = some (.fz t)) ∨ (r = .sl i ∧ c[i]? = some (.ow t))
  | .W => r = .fz t ∨ r = .nw t
  | .U => r = .fz t ∨ r = .nw t ∨ ∃ i, r = .sl i ∧ c[i]? = some (.ow t)
def Kd.val : Kd → Bool
  | .F => true
  | .N => true
  | .W => true
  | _ => false
section
variable {k : Kd} {t : T} {r : Rs} {c c' : Cs} {M M' : Tab} {D D' : List Dc} {i j v : Nat}
theorem pk_ow (h : c[i]? = some (.ow t)) : pk (.sl i) c = some t := by simp only [pk, h]
theorem pk_bo (h : c[i]? = some (.bo t)) : pk (.sl i) c = some t := by simp only [pk, h]
theorem pk_sfz (h : c[i]? = some (.fz t)) : pk (.sl i) c = some t := by simp only [pk, h]
theorem KdOk.pk (h : KdOk k t r c) : TL.pk r c = some t := by
  cases k with
  | F => cases h; rfl
  | N => cases h; rfl
  | S i => obtain ⟨rfl, h | h⟩ := h; exact pk_ow h; exact pk_bo h
  | V i => rcases h with ⟨rfl, _⟩ | ⟨rfl, h⟩; rfl; exact pk_ow h
  | W => rcases h with rfl | rfl <;> rfl
  | U => rcases h with rfl | rfl | ⟨i, rfl, h⟩; rfl; rfl; exact pk_ow h
theorem KdOk.pk' (h : KdOk k t r c) (f : Frz c c') : TL.pk r c' = some t := by
  have ow : ∀ {i}, c[i]? = some (.ow t) → TL.pk (.sl i) c' = some t := fun {i} e => by
    rcases f.2 i _ e with e1 | ⟨u, e1, e2⟩
    · exact pk_ow e1
    · cases e1; exact pk_sfz e2
  cases k with
  | F => cases h; rfl
  | N => cases h; rfl
  | S i =>
    obtain ⟨rfl, h | h⟩ := h
    · exact ow h
    · rcases f.2 i _ h with e1 | ⟨u, e1, e2⟩
      · exact pk_bo e1
      · cases e1
  | V i => rcases h with ⟨rfl, _⟩ | ⟨rfl, h⟩; rfl; exact ow h
  | W => rcases h with rfl | rfl <;> rfl
  | U => rcases h with rfl | rfl | ⟨i, rfl, h⟩; rfl; rfl; exact ow h
theorem KdOk.pkv (h : KdOk k t r c) (hv : k.val = true) : TL.pk r c' = some t := by
  cases k <;> simp only [Kd.val, Bool.false_eq_true] at hv
  · cases h; rfl
  · cases h; rfl
  · rcases h with rfl | rfl <;> rfl
theorem KdOk.vw (h : KdOk k t r c) (hv : k.val = true) : r = .fz t ∨ r = .nw t := by
  cases k <;> simp only [Kd.val, Bool.false_eq_true] at hv
  · exact .inl h
  · exact .inr h
  · exact h
theorem set_at {x : Cell} (h : i < c.length) : (c.set i x)[i]? = some x := List.getElem?_set_self h
theorem set_off {x : Cell} (h : j ≠ i) : (c.set i x)[j]? = c[j]? := List.getElem?_set_ne (Ne.symm h)
theorem setD_at {d : Dc} (h : i < D.length) : (D.set i d)[i]? = some d := List.getElem?_set_self h
theorem setD_off {d : Dc} (h : j ≠ i) : (D.set i d)[j]? = D[j]? := List.getElem?_set_ne (Ne.symm h)
/-- one slot's cell is set, one slot's value -/
theorem Rep.set (r : Rep M D c) {x : Cell} {d : Dc} (hi : i < D.length) (ho : okc (acc M' i) d x) (hm : ∀ j, j ≠ i → acc M' j = acc M j) : Rep M' (D.set i d) (c.set i x) := by
  refine ⟨by simp [r.1], fun j d' e => ?_⟩
  by_cases ne : j = i
  · subst ne
    rw [setD_at hi] at e; cases e
    exact ⟨x, set_at (by rw [r.1]; exact hi), ho⟩
  · rw [setD_off ne] at e
    obtain ⟨y, e1, o⟩ := r.2 j d' e
    exact ⟨y, by rw [set_off ne]; exact e1, by rw [hm j ne]; exact o⟩
theorem lt_of_getD {d : Dc} (h : D[i]? = some d) : i < D.length := (List.getElem?_eq_some_iff.mp h).1
theorem Rep.at (r : Rep M D c) {d : Dc} (h : D[i]? = some d) : ∃ x, c[i]? = some x ∧ okc (acc M i) d x := r.2 i d h
/-! freezing -/
def weak : Dc → Dc
  | .O v => .R v
  | d => d
def frzD (k : Kd) (D : List Dc) : Option (List Dc) := match k with
  | .S i => match D[i]? with
    | some (.O v) => some (D.set i (.F v))
    | _ => none
  | .V i => match D[i]? with
    | some (.R v) => some (D.set i (.F v))
    | _ => none
  | .U => some (D.map weak)
  | _ => some D
theorem frz_set (h : c[i]? = some (.ow t)) : Frz c (c.set i (.fz t)) := by
  refine ⟨by simp, fun j x e => ?_⟩
  by_cases ne : j = i
  · subst ne
    rw [h] at e; cases e
    exact .inr ⟨t, rfl, set_at (lt_of_get h)⟩
  · rw [set_off ne]; exact .inl e
theorem Rep.weak (r : Rep M D c) : Rep M (D.map TY.weak) c := by
  refine ⟨by simp [r.1], fun i d e => ?_⟩
  rw [List.getElem?_map] at e
  cases h : D[i]? with
  | none => rw [h] at e; cases e
  | some d0 =>
    rw [h] at e; cases e
    obtain ⟨x, e1, o⟩ := r.2 i d0 h
    refine ⟨x, e1, ?_⟩
    cases d0 with
    | O v => exact .inr o
    | _ => exact o
theorem frz_ok (h : KdOk k t r c) (R : Rep M D c) (e : frzD k D = some D') : ∃ c', frz r c = some (t, c') ∧ Rep M D' c' ∧ Frz c c' := by
  cases k with
  | F => cases h; cases e; exact ⟨c, rfl, R, .refl⟩
  | N => cases h; cases e; exact ⟨c, rfl, R, .refl⟩
  | W => cases e; rcases h with rfl | rfl <;> exact ⟨c, rfl, R, .refl⟩
  | S i =>
    simp only [frzD] at e
    split at e
    · rename_i v hd
      cases e
      obtain ⟨x, e1, o⟩ := R.at hd
      cases o
      obtain ⟨rfl, h⟩ := h
      have ht : acc M i v = t := by
        rw [e1] at h
        rcases h with h | h
        · injection (Option.some.inj h)
        · cases h
      rw [ht] at e1
      exact ⟨c.set i (.fz t), by simp only [frz, e1], R.set (lt_of_getD hd) (by show _ = _; rw [ht]) fun _ _ => rfl, frz_set e1⟩
    · cases e
  | V i =>
    simp only [frzD] at e
    split at e
    · rename_i v hd
      cases e
      obtain ⟨x, e1, o⟩ := R.at hd
      rcases h with ⟨rfl, h⟩ | ⟨rfl, h⟩
      · have ht : acc M i v = t := by
          rw [e1] at h; cases h
          rcases o with o | o
          · injection o.symm
          · cases o
        refine ⟨c, rfl, ?_, .refl⟩
        have := R.set (x := Cell.fz t) (d := .F v) (lt_of_getD hd) (by show _ = _; rw [ht]) fun _ _ => rfl
        have e3 : c.set i (.fz t) = c := by
          refine List.ext_getElem? fun j => ?_
          by_cases ne : j = i
          · subst ne; rw [set_at (lt_of_get h), h]
          · rw [set_off ne]
        rwa [e3] at this
      · have ht : acc M i v = t := by
          rw [e1] at h; cases h
          rcases o with o | o
          · cases o
          · injection o.symm
        exact ⟨c.set i (.fz t), by simp only [frz, h], R.set (lt_of_getD hd) (by show _ = _; rw [ht]) fun _ _ => rfl, frz_set h⟩
    · cases e
  | U =>
    cases e
    rcases h with rfl | rfl | ⟨i, rfl, h⟩
    · exact ⟨c, rfl, R.weak, .refl⟩
    · exact ⟨c, rfl, R.weak, .refl⟩
    · refine ⟨c.set i (.fz t), by simp only [frz, h], ?_, frz_set h⟩
      refine ⟨by simp [R.1], fun j d e => ?_⟩
      obtain ⟨x, e1, o⟩ := R.weak.2 j d e
      by_cases ne : j = i
      · subst ne
        rw [h] at e1; cases e1
        refine ⟨.fz t, set_at (lt_of_get h), ?_⟩
        cases d with
        | X => exact fun u z => by cases z
        | F v => cases o
        | R v => rcases o with o | o <;> cases o; exact .inl rfl
        | O v =>
          rw [List.getElem?_map] at e
          cases hd : D[j]? with
          | none => rw [hd] at e; cases e
          | some d0 => rw [hd] at e; cases d0 <;> cases e
        | B v => cases o
      · exact ⟨x, by rw [set_off ne]; exact e1, o⟩
/-- a slot takes a result -/
def storeK (k : Kd) (i v : Nat) (D : List Dc) : Option (List Dc) := match k with
  | .F => some (D.set i (.F v))
  | .N => some (D.set i (.O v))
  | .W => some (D.set i (.R v))
  | .U => none
  | .S j => match frzD (.S j) D with
    | some D1 => some (D1.set i (.F v))
    | none => none
  | .V j => match frzD (.V j) D with
    | some D1 => some (D1.set i (.F v))
    | none => none
def storeD (k : Kd) (i v : Nat) (D : List Dc) : Option (List Dc) := match D[i]? with
  | none => none
  | some (.B _) => none
  | some _ => storeK k i v D
def Upd (M M' : Tab) (i v : Nat) (t : T) : Prop := acc M' i v = t ∧ ∀ j, j ≠ i → acc M' j = acc M j
theorem acc_set {row : List T} {M : Tab} (ne : j ≠ i) : acc (M.set i row) j = acc M j := by
  funext w
  unfold acc
  rw [List.getElem?_set_ne (Ne.symm ne)]
theorem notB {d : Dc} (R : Rep M D c) (h : D[i]? = some d) (hd : ∀ v, d ≠ .B v) : ∃ x, c[i]? = some x ∧ NB x := by
  obtain ⟨x, e, o⟩ := R.at h
  refine ⟨x, e, fun u z => ?_⟩
  subst z
  cases d with
  | X => exact o u rfl
  | F v => cases o
  | R v => rcases o with o | o <;> cases o
  | O v => cases o
  | B v => exact hd v rfl
theorem setR_of {x : Cell} (h : c[i]? = some x) (n : NB x) : setR i r c = match r with
    | .fz t => some (c.set i (.fz t))
    | .nw t => some (c.set i (.ow t))
    | .sl j => match frz (.sl j) c with
      | some (t, cs1) => some (cs1.set i (.fz t))
      | none => none := by
  unfold setR
  rw [h]
  cases x with
  | bo u => exact absurd rfl (n u)
  | _ => rfl
theorem store_ok (h : KdOk k t r c) (R : Rep M D c) (e : storeD k i v D = some D') (u : Upd M M' i v t) : ∃ c', setR i r c = some c' ∧ Rep M' D' c' := by
  unfold storeD at e
  cases hd : D[i]? with
  | none => rw [hd] at e; cases e
  | some d =>
    rw [hd] at e
    have hB : ∀ v, d ≠ .B v := fun v z => by subst z; cases e
    have hi := lt_of_getD hd
    obtain ⟨x, hx, n⟩ := notB R hd hB
    have fr : ∀ {k : Kd}, KdOk k t r c → (∃ j, k = .S j ∨ k = .V j) → (match frzD k D with
      | some D1 => some (D1.set i (.F v))
      | none => none) = some D' → ∃ c', setR i r c = some c' ∧ Rep M' D' c' := fun {k} h hk e => by
      cases h1 : frzD k D with
      | none => rw [h1] at e; cases e
      | some D1 =>
        rw [h1] at e; cases e
        obtain ⟨c1, e1, R1, F1⟩ := frz_ok h R h1
        have hl : i < D1.length := by rw [← R1.1, F1.1, R.1]; exact hi
        refine ⟨c1.set i (.fz t), ?_, R1.set hl (by show _ = _; rw [u.1]) u.2⟩
        rw [setR_of hx n]
        cases r with
        | fz t' =>
          have : t' = t ∧ c1 = c := by cases e1; exact ⟨rfl, rfl⟩
          obtain ⟨rfl, rfl⟩ := this
          rfl
        | nw t' =>
          obtain ⟨j, rfl | rfl⟩ := hk
          · cases h.1
          · rcases h with ⟨z, _⟩ | ⟨z, _⟩ <;> cases z
        | sl j => simp only [e1]
    have e' : storeK k i v D = some D' := by
      cases d with
      | B v => exact absurd rfl (hB v)
      | _ => exact e
    cases k with
    | F => cases h; cases e'; exact ⟨_, setR_of hx n, R.set hi (by show _ = _; rw [u.1]) u.2⟩
    | N => cases h; cases e'; exact ⟨_, setR_of hx n, R.set hi (by show _ = _; rw [u.1]) u.2⟩
    | W =>
      cases e'
      rcases h with rfl | rfl
      · exact ⟨_, setR_of hx n, R.set hi (.inl (by rw [u.1])) u.2⟩
      · exact ⟨_, setR_of hx n, R.set hi (.inr (by rw [u.1])) u.2⟩
    | U => cases e'
    | S j => exact fr h ⟨j, .inl rfl⟩ e'
    | V j => exact fr h ⟨j, .inr rfl⟩ e'
end
end TY
namespace TY
open PySem PySem.Spec L2 TL

/-! ### typed expressions -/
abbrev PX (S α : Type) := S → Option α
abbrev IX (S α : Type) := S → Option (α × S)
abbrev AE := List Dc → Option (List Dc × Kd)
abbrev AT := List Dc → Option (List Dc)
abbrev AA := List Dc → Option (List Dc × Bool)
section
variable {S α β γ δ ω : Type}
def pu (f : PX S α) : IX S α := fun s => (f s).map fun a => (a, s)
theorem pu_of {f : PX S α} {s s' : S} {a : α} (h : pu f s = some (a, s')) : f s = some a ∧ s' = s := by
  unfold pu at h
  cases e : f s with
  | none => rw [e] at h; cases h
  | some b => rw [e] at h; cases h; exact ⟨rfl, rfl⟩
def LE (V : S → Tab) (m : ME) (f : IX S α) (e : En α) (ab : AE) (p : Bool) : Prop := ∀ D D' k, ab D = some (D', k) → ∀ s c a s', Rep (V s) D c → f s = some (a, s') →
  ∃ r c', m c = some (r, c') ∧ Rep (V s') D' c' ∧ KdOk k (e a) r c' ∧ (p = true → s' = s ∧ Frz c c')
abbrev PL (V : S → Tab) (m : ME) (f : PX S α) (e : En α) (ab : AE) : Prop := LE V m (pu f) e ab true
def LT (V : S → Tab) (m : MT) (f : IX S Bool) (ab : AT) (p : Bool) : Prop := ∀ D D', ab D = some D' → ∀ s c b s', Rep (V s) D c → f s = some (b, s') →
  ∃ c', m c = some (b, c') ∧ Rep (V s') D' c' ∧ (p = true → s' = s ∧ Frz c c')
abbrev PT (V : S → Tab) (m : MT) (f : PX S Bool) (ab : AT) : Prop := LT V m (pu f) ab true
def LA (V : S → Tab) (m : MA) (f : IX S α) (e : α → List T) (ab : AA) (p : Bool) : Prop := ∀ D D' q, ab D = some (D', q) → ∀ s c a s', Rep (V s) D c → f s = some (a, s') →
  ∃ rs c', m c = some (rs, c') ∧ Rep (V s') D' c' ∧ pks rs c' = some (e a) ∧ (q = true → rs = (e a).map .fz) ∧ (p = true → s' = s ∧ Frz c c')
abbrev PA (V : S → Tab) (m : MA) (f : PX S α) (e : α → List T) (ab : AA) : Prop := LA V m (pu f) e ab true
def LI (V : S → Tab) (m : MI) (f : IX S (List α)) (e : En α) (ab : AT) (p : Bool) : Prop := ∀ D D', ab D = some D' → ∀ s c xs s', Rep (V s) D c → f s = some (xs, s') →
  ∃ c', m c = some (xs.map e, c') ∧ Rep (V s') D' c' ∧ (p = true → s' = s ∧ Frz c c')
abbrev PI (V : S → Tab) (m : MI) (f : PX S (List α)) (e : En α) (ab : AT) : Prop := LI V m (pu f) e ab true

/-! combinators on the typed side: p the pure ones, i those that change the state -/
def pC (a : α) : PX S α := fun _ => some a
def pV (g : S → α) : PX S α := fun s => some (g s)
def pOp (F : α → β → Option γ) (a : PX S α) (b : PX S β) : PX S γ := fun s => (a s).bind fun x => (b s).bind fun y => F x y
def iOp (F : α → β → Option γ) (a : IX S α) (b : IX S β) : IX S γ := fun s => (a s).bind fun x => (b x.2).bind fun y => (F x.1 y.1).map fun z => (z, y.2)
def pUn (F : α → Option β) (a : PX S α) : PX S β := fun s => (a s).bind F
def iUn (F : α → Option β) (a : IX S α) : IX S β := fun s => (a s).bind fun x => (F x.1).map fun z => (z, x.2)
def pCh (F : α → β → Option Bool) (F' : β → γ → Option Bool) (a : PX S α) (b : PX S β) (c : PX S γ) : PX S Bool := fun s => (a s).bind fun x => (b s).bind fun y => (F x y).bind fun t => if t then (c s).bind fun z => F' y z else some false
def pNot (a : PX S Bool) : PX S Bool := fun s => (a s).map fun b => !b
def iNot (a : IX S Bool) : IX S Bool := fun s => (a s).map fun b => (!b.1, b.2)
def pAnd (a b : PX S Bool) : PX S Bool := fun s => (a s).bind fun x => if x then b s else some false
def iAnd (a b : IX S Bool) : IX S Bool := fun s => (a s).bind fun x => if x.1 then b x.2 else some (false, x.2)
def pOr (a b : PX S Bool) : PX S Bool := fun s => (a s).bind fun x => if x then some true else b s
def iOr (a b : IX S Bool) : IX S Bool := fun s => (a s).bind fun x => if x.1 then some (true, x.2) else b x.2
def pIf (c : PX S Bool) (a b : PX S α) : PX S α := fun s => (c s).bind fun x => if x then a s else b s
def iIf (c : IX S Bool) (a b : IX S α) : IX S α := fun s => (c s).bind fun x => if x.1 then a x.2 else b x.2
def pNil : PX S Unit := fun _ => some ()
def pCons (a : PX S α) (b : PX S β) : PX S (α × β) := fun s => (a s).bind fun x => (b s).map fun y => (x, y)
def iCons (a : IX S α) (b : IX S β) : IX S (α × β) := fun s => (a s).bind fun x => (b x.2).map fun y => ((x.1, y.1), y.2)
/-- a def is called; its first argument is lent -/
def iFnB (get : S → ω) (set : ω → S → S) (f : ω → α → Option (β × ω)) (a : IX S α) : IX S β := fun s => (a s).bind fun x => (f (get x.2) x.1).map fun y => (y.1, set y.2 x.2)
/-- the turns of a comprehension -/
def lcO (c : α → Option Bool) (e : α → Option β) : List α → Option (List β)
  | [] => some []
  | x :: xs => (c x).bind fun b => if b then (e x).bind fun y => (lcO c e xs).map fun ys => y :: ys else lcO c e xs
def pLc (it : PX S (List α)) (set : α → S → S) (c : PX S Bool) (e : PX S β) : PX S (List β) := fun s => (it s).bind fun xs => if xs.length ≤ sizeLine then lcO (fun x => c (set x s)) (fun x => e (set x s)) xs else none
def lcI (set : α → S → S) (c : IX S Bool) (e : IX S β) : List α → S → Option (List β × S)
  | [], s => some ([], s)
  | x :: xs, s => (c (set x s)).bind fun b => if b.1 then (e b.2).bind fun y => (lcI set c e xs y.2).map fun z => (y.1 :: z.1, z.2) else lcI set c e xs b.2
def iLc (rst : S → S → S) (it : IX S (List α)) (set : α → S → S) (c : IX S Bool) (e : IX S β) : IX S (List β) := fun s => (it s).bind fun xs => if xs.1.length ≤ sizeLine then (lcI set c e xs.1 xs.2).map fun z => (z.1, rst xs.2 z.2) else none

section
variable {F : α → β → Option γ} {F1 : α → Option β} {a : PX S α} {b : PX S β} {c : PX S Bool} {d : PX S Bool}
theorem iOp_pu : iOp F (pu a) (pu b) = pu (pOp F a b) := by
  funext s; simp only [iOp, pu, pOp]; cases a s <;> simp; cases b s <;> simp
theorem iUn_pu : iUn F1 (pu a) = pu (pUn F1 a) := by
  funext s; simp only [iUn, pu, pUn]; cases a s <;> simp
theorem iNot_pu : iNot (pu c) = pu (pNot c) := by
  funext s; simp only [iNot, pu, pNot]; cases c s <;> simp
theorem iAnd_pu : iAnd (pu c) (pu d) = pu (pAnd c d) := by
  funext s; simp only [iAnd, pu, pAnd]; cases c s with
  | none => rfl
  | some x => cases x <;> simp
theorem iOr_pu : iOr (pu c) (pu d) = pu (pOr c d) := by
  funext s; simp only [iOr, pu, pOr]; cases c s with
  | none => rfl
  | some x => cases x <;> simp
theorem iIf_pu {a b : PX S α} : iIf (pu c) (pu a) (pu b) = pu (pIf c a b) := by
  funext s; simp only [iIf, pu, pIf]; cases c s with
  | none => rfl
  | some x => cases x <;> simp
theorem iCons_pu : iCons (pu a) (pu b) = pu (pCons a b) := by
  funext s; simp only [iCons, pu, pCons]; cases a s <;> simp; cases b s <;> simp
end

/-! ### what they stand for -/
section
variable {V : S → Tab} {m ma mb mc : ME} {mt mn : MT} {ms : MA} {ea : En α} {eb : En β} {eg : En γ} {ew : En ω} {fa : IX S α} {fb : IX S β} {aba abb : AE} {abt abn : AT} {abs : AA} {p pa pb : Bool} {i v : Nat}
def abV (i v : Nat) : AE := fun D => match D[i]? with
  | some (.F w) => if w = v then some (D, .F) else none
  | some (.R w) => if w = v then some (D, .V i) else none
  | some (.O w) => if w = v then some (D, .S i) else none
  | some (.B w) => if w = v then some (D, .S i) else none
  | _ => none
theorem pl_V {g : S → α} (hg : ∀ s, acc (V s) i v = ea (g s)) : PL V (mV i) (pV g) ea (abV i v) := by
  intro D D' k h s c a s' R hf
  obtain ⟨h1, rfl⟩ := pu_of hf
  cases h1
  unfold abV at h
  split at h
  all_goals (try cases h)
  · rename_i w hd
    split at h
    · rename_i hw; cases h; subst hw
      obtain ⟨x, e, o⟩ := R.at hd
      cases o
      rw [hg] at e
      exact ⟨.fz (ea (g s')), c, by unfold mV; rw [e], R, rfl, fun _ => ⟨rfl, .refl⟩⟩
    · cases h
  · rename_i w hd
    split at h
    · rename_i hw; cases h; subst hw
      obtain ⟨x, e, o⟩ := R.at hd
      rcases o with o | o <;> cases o <;> rw [hg] at e
      · exact ⟨.fz (ea (g s')), c, by unfold mV; rw [e], R, .inl ⟨rfl, e⟩, fun _ => ⟨rfl, .refl⟩⟩
      · exact ⟨.sl i, c, by unfold mV; rw [e], R, .inr ⟨rfl, e⟩, fun _ => ⟨rfl, .refl⟩⟩
    · cases h
  · rename_i w hd
    split at h
    · rename_i hw; cases h; subst hw
      obtain ⟨x, e, o⟩ := R.at hd
      cases o
      rw [hg] at e
      exact ⟨.sl i, c, by unfold mV; rw [e], R, ⟨rfl, .inl e⟩, fun _ => ⟨rfl, .refl⟩⟩
    · cases h
  · rename_i w hd
    split at h
    · rename_i hw; cases h; subst hw
      obtain ⟨x, e, o⟩ := R.at hd
      cases o
      rw [hg] at e
      exact ⟨.sl i, c, by unfold mV; rw [e], R, ⟨rfl, .inr e⟩, fun _ => ⟨rfl, .refl⟩⟩
    · cases h
def abC : AE := fun D => some (D, .F)
theorem pl_C {t : T} {a : α} (h : ea a = t := by rfl) : PL V (mC t) (pC a) ea abC := by
  intro D D' k hk s c x s' R hf
  obtain ⟨h1, rfl⟩ := pu_of hf
  cases h1; cases hk
  exact ⟨.fz t, c, rfl, R, by show _ = _; rw [h], fun _ => ⟨rfl, .refl⟩⟩
def abFz (ab : AE) : AE := fun D => match ab D with
  | some (D1, k) => match frzD k D1 with
    | some D2 => some (D2, .F)
    | none => none
  | none => none
theorem le_Fz (h : LE V m fa ea aba p) : LE V (mFz m) fa ea (abFz aba) p := by
  intro D D' k hk s c x s' R hf
  unfold abFz at hk
  split at hk
  · rename_i D1 k1 h1
    split at hk
    · rename_i D2 h2
      cases hk
      obtain ⟨r, c1, e1, R1, K1, P1⟩ := h D D1 k1 h1 s c x s' R hf
      obtain ⟨c2, e2, R2, F2⟩ := frz_ok K1 R1 h2
      exact ⟨.fz (ea x), c2, by unfold mFz; rw [e1]; simp only [e2], R2, rfl, fun q => ⟨(P1 q).1, (P1 q).2.trans F2⟩⟩
    · cases hk
  · cases hk
/-- new or frozen -/
def mo (b : Bool) (t : T) : Out := match b with
  | true => .nw t
  | false => .fz t
def ko (b : Bool) : Kd := match b with
  | true => .N
  | false => .F
theorem mo_ok {b : Bool} {t : T} {c : Cs} : KdOk (ko b) t (mo b t).rs c := by cases b <;> rfl
def abOp (o : Bool) (a b : AE) (pb : Bool) : AE := fun D => match a D with
  | some (D1, k1) => match b D1 with
    | some (D2, _) => if k1.val || pb then some (D2, ko o) else none
    | none => none
  | none => none
theorem le_op {Fm : T → T → Option Out} {F : α → β → Option γ} {o : Bool} (hF : ∀ x y z, F x y = some z → Fm (ea x) (eb y) = some (mo o (eg z))) (ha : LE V ma fa ea aba pa) (hb : LE V mb fb eb abb pb) :
    LE V (mOp Fm ma mb) (iOp F fa fb) eg (abOp o aba abb pb) (pa && pb) := by
  intro D D' k hk s c z s' R hf
  unfold abOp at hk
  split at hk
  · rename_i D1 k1 h1
    split at hk
    · rename_i D2 k2 h2
      split at hk
      · rename_i hv
        cases hk
        unfold iOp at hf
        obtain ⟨⟨x, s1⟩, f1, hf⟩ := Option.bind_eq_some_iff.mp hf
        obtain ⟨⟨y, s2⟩, f2, hf⟩ := Option.bind_eq_some_iff.mp hf
        obtain ⟨z', f3, hf⟩ := Option.map_eq_some_iff.mp hf
        cases hf
        obtain ⟨ra, c1, e1, R1, K1, P1⟩ := ha D D1 k1 h1 s c x s1 R f1
        obtain ⟨rb, c2, e2, R2, K2, P2⟩ := hb D1 _ k2 h2 s1 c1 y s2 R1 f2
        have pk1 : TL.pk ra c2 = some (ea x) := by
          rw [Bool.or_eq_true] at hv
          rcases hv with hv | hv
          · exact K1.pkv hv
          · exact K1.pk' (P2 hv).2
        refine ⟨(mo o (eg z)).rs, c2, by unfold mOp; rw [e1]; simp only [e2, pk1, K2.pk, hF _ _ _ f3], R2, mo_ok, fun q => ?_⟩
        rw [Bool.and_eq_true] at q
        exact ⟨(P2 q.2).1.trans (P1 q.1).1, (P1 q.1).2.trans (P2 q.2).2⟩
      · cases hk
    · cases hk
  · cases hk
theorem pl_op {Fm : T → T → Option Out} {F : α → β → Option γ} {o : Bool} {fa : PX S α} {fb : PX S β} (hF : ∀ x y z, F x y = some z → Fm (ea x) (eb y) = some (mo o (eg z))) (ha : PL V ma fa ea aba) (hb : PL V mb fb eb abb) :
    PL V (mOp Fm ma mb) (pOp F fa fb) eg (abOp o aba abb true) := by
  have := le_op hF ha hb
  rwa [iOp_pu] at this
def abUn (o : Bool) (a : AE) : AE := fun D => match a D with
  | some (D1, _) => some (D1, ko o)
  | none => none
theorem le_un {Fm : T → Option Out} {F : α → Option β} {o : Bool} (hF : ∀ x z, F x = some z → Fm (ea x) = some (mo o (eb z))) (ha : LE V ma fa ea aba pa) :
    LE V (mUn Fm ma) (iUn F fa) eb (abUn o aba) pa := by
  intro D D' k hk s c z s' R hf
  unfold abUn at hk
  split at hk
  · rename_i D1 k1 h1
    cases hk
    unfold iUn at hf
    obtain ⟨⟨x, s1⟩, f1, hf⟩ := Option.bind_eq_some_iff.mp hf
    obtain ⟨z', f3, hf⟩ := Option.map_eq_some_iff.mp hf
    cases hf
    obtain ⟨ra, c1, e1, R1, K1, P1⟩ := ha D _ k1 h1 s c x s1 R f1
    exact ⟨_, c1, by unfold mUn; rw [e1]; simp only [K1.pk, hF _ _ f3], R1, mo_ok, P1⟩
  · cases hk
theorem pl_un {Fm : T → Option Out} {F : α → Option β} {o : Bool} {fa : PX S α} (hF : ∀ x z, F x = some z → Fm (ea x) = some (mo o (eb z))) (ha : PL V ma fa ea aba) :
    PL V (mUn Fm ma) (pUn F fa) eb (abUn o aba) := by
  have := le_un hF ha
  rwa [iUn_pu] at this
/-- the value is another one's, its tree the same -/
theorem pl_as {F : α → Option β} {fa : PX S α} (hF : ∀ x z, F x = some z → ea x = eb z) (ha : PL V ma fa ea aba) : PL V ma (pUn F fa) eb aba := by
  intro D D' k hk s c z s' R hf
  obtain ⟨h1, rfl⟩ := pu_of hf
  unfold pUn at h1
  obtain ⟨x, f1, f2⟩ := Option.bind_eq_some_iff.mp h1
  have := ha D D' k hk s' c x s' R (by unfold pu; rw [f1]; rfl)
  rwa [hF x z f2] at this
theorem le_as {F : α → Option β} (hF : ∀ x z, F x = some z → ea x = eb z) (ha : LE V ma fa ea aba pa) : LE V ma (iUn F fa) eb aba pa := by
  intro D D' k hk s c z s' R hf
  unfold iUn at hf
  obtain ⟨⟨x, s1⟩, f1, hf⟩ := Option.bind_eq_some_iff.mp hf
  obtain ⟨z', f3, hf⟩ := Option.map_eq_some_iff.mp hf
  cases hf
  have := ha D D' k hk s c x s1 R f1
  rwa [hF x z f3] at this
/-! tests -/
def abB (a : AE) : AT := fun D => match a D with
  | some (D1, .F) => some D1
  | _ => none
theorem lt_asB {fa : IX S Bool} (ha : LE V m fa eB aba p) : LT V (asB m) fa (abB aba) p := by
  intro D D' hk s c b s' R hf
  unfold abB at hk
  split at hk
  · rename_i D1 h1
    cases hk
    obtain ⟨r, c1, e1, R1, K1, P1⟩ := ha D _ _ h1 s c b s' R hf
    cases K1
    exact ⟨c1, by unfold asB; rw [e1]; rfl, R1, P1⟩
  · cases hk
def joC (a b : List Dc) : Option (List Dc) := if leDs a (joDs a b) && leDs b (joDs a b) then some (joDs a b) else none
theorem joC_of {a b J : List Dc} (h : joC a b = some J) : leDs a J = true ∧ leDs b J = true := by
  unfold joC at h
  split at h
  · rename_i k
    cases h
    exact Bool.and_eq_true _ _ |>.mp k
  · cases h
def abBoth (a b : AT) : AT := fun D => match a D with
  | some D1 => match b D1 with
    | some D2 => joC D1 D2
    | none => none
  | none => none
theorem lt_not {f : IX S Bool} (h : LT V mt f abt p) : LT V (mtNot mt) (iNot f) abt p := by
  intro D D' hk s c b s' R hf
  unfold iNot at hf
  obtain ⟨⟨x, s1⟩, f1, hf⟩ := Option.map_eq_some_iff.mp hf
  cases hf
  obtain ⟨c1, e1, R1, P1⟩ := h D _ hk s c x s1 R f1
  exact ⟨c1, by unfold mtNot; rw [e1], R1, P1⟩
theorem pt_not {f : PX S Bool} (h : PT V mt f abt) : PT V (mtNot mt) (pNot f) abt := by
  have := lt_not h
  rwa [iNot_pu] at this
theorem lt_and {f g : IX S Bool} (h : LT V mt f abt pa) (h' : LT V mn g abn pb) : LT V (mtAnd mt mn) (iAnd f g) (abBoth abt abn) (pa && pb) := by
  intro D D' hk s c b s' R hf
  unfold abBoth at hk
  split at hk
  · rename_i D1 h1
    split at hk
    · rename_i D2 h2
      obtain ⟨j1, j2⟩ := joC_of hk
      unfold iAnd at hf
      obtain ⟨⟨x, s1⟩, f1, hf⟩ := Option.bind_eq_some_iff.mp hf
      obtain ⟨c1, e1, R1, P1⟩ := h D _ h1 s c x s1 R f1
      cases x with
      | false =>
        cases hf
        exact ⟨c1, by unfold mtAnd; rw [e1], R1.le j1, fun q => P1 (Bool.and_eq_true _ _ |>.mp q).1⟩
      | true =>
        obtain ⟨c2, e2, R2, P2⟩ := h' D1 _ h2 s1 c1 b s' R1 hf
        exact ⟨c2, by unfold mtAnd; rw [e1]; exact e2, R2.le j2, fun q => by
          obtain ⟨qa, qb⟩ := Bool.and_eq_true _ _ |>.mp q
          exact ⟨(P2 qb).1.trans (P1 qa).1, (P1 qa).2.trans (P2 qb).2⟩⟩
    · cases hk
  · cases hk
theorem pt_and {f g : PX S Bool} (h : PT V mt f abt) (h' : PT V mn g abn) : PT V (mtAnd mt mn) (pAnd f g) (abBoth abt abn) := by
  have := lt_and h h'
  rwa [iAnd_pu] at this
theorem lt_or {f g : IX S Bool} (h : LT V mt f abt pa) (h' : LT V mn g abn pb) : LT V (mtOr mt mn) (iOr f g) (abBoth abt abn) (pa && pb) := by
  intro D D' hk s c b s' R hf
  unfold abBoth at hk
  split at hk
  · rename_i D1 h1
    split at hk
    · rename_i D2 h2
      obtain ⟨j1, j2⟩ := joC_of hk
      unfold iOr at hf
      obtain ⟨⟨x, s1⟩, f1, hf⟩ := Option.bind_eq_some_iff.mp hf
      obtain ⟨c1, e1, R1, P1⟩ := h D _ h1 s c x s1 R f1
      cases x with
      | true =>
        cases hf
        exact ⟨c1, by unfold mtOr; rw [e1], R1.le j1, fun q => P1 (Bool.and_eq_true _ _ |>.mp q).1⟩
      | false =>
        obtain ⟨c2, e2, R2, P2⟩ := h' D1 _ h2 s1 c1 b s' R1 hf
        exact ⟨c2, by unfold mtOr; rw [e1]; exact e2, R2.le j2, fun q => by
          obtain ⟨qa, qb⟩ := Bool.and_eq_true _ _ |>.mp q
          exact ⟨(P2 qb).1.trans (P1 qa).1, (P1 qa).2.trans (P2 qb).2⟩⟩
    · cases hk
  · cases hk
theorem pt_or {f g : PX S Bool} (h : PT V mt f abt) (h' : PT V mn g abn) : PT V (mtOr mt mn) (pOr f g) (abBoth abt abn) := by
  have := lt_or h h'
  rwa [iOr_pu] at this
/-! .. as values -/
def abNotV (a : AE) : AE := fun D => match abB a D with
  | some D1 => some (D1, .F)
  | none => none
theorem le_notV {f : IX S Bool} (h : LE V m f eB aba p) : LE V (mNotV m) (iNot f) eB (abNotV aba) p := by
  intro D D' k hk s c z s' R hf
  unfold abNotV at hk
  split at hk
  · rename_i D1 h1
    cases hk
    unfold iNot at hf
    obtain ⟨⟨x, s1⟩, f1, hf⟩ := Option.map_eq_some_iff.mp hf
    cases hf
    obtain ⟨c1, e1, R1, P1⟩ := lt_asB h D _ h1 s c x s1 R f1
    exact ⟨_, c1, by unfold mNotV; rw [e1]; rfl, R1, rfl, P1⟩
  · cases hk
theorem pl_notV {f : PX S Bool} (h : PL V m f eB aba) : PL V (mNotV m) (pNot f) eB (abNotV aba) := by
  have := le_notV h
  rwa [iNot_pu] at this
def abAndV (a b : AE) : AE := fun D => match abB a D with
  | some D1 => match b D1 with
    | some (D2, .F) => match joC D1 D2 with
      | some J => some (J, .F)
      | none => none
    | _ => none
  | none => none
theorem le_andV {f g : IX S Bool} (h : LE V ma f eB aba pa) (h' : LE V mb g eB abb pb) : LE V (mAndV ma mb) (iAnd f g) eB (abAndV aba abb) (pa && pb) := by
  intro D D' k hk s c b s' R hf
  unfold abAndV at hk
  split at hk
  · rename_i D1 h1
    split at hk
    · rename_i D2 h2
      split at hk
      · rename_i J hj
        cases hk
        obtain ⟨j1, j2⟩ := joC_of hj
        unfold iAnd at hf
        obtain ⟨⟨x, s1⟩, f1, hf⟩ := Option.bind_eq_some_iff.mp hf
        obtain ⟨c1, e1, R1, P1⟩ := lt_asB h D _ h1 s c x s1 R f1
        cases x with
        | false =>
          cases hf
          exact ⟨_, c1, by unfold mAndV; rw [e1]; rfl, R1.le j1, rfl, fun q => P1 (Bool.and_eq_true _ _ |>.mp q).1⟩
        | true =>
          obtain ⟨r, c2, e2, R2, K2, P2⟩ := h' D1 _ _ h2 s1 c1 b s' R1 hf
          exact ⟨r, c2, by unfold mAndV; rw [e1]; exact e2, R2.le j2, K2, fun q => by
            obtain ⟨qa, qb⟩ := Bool.and_eq_true _ _ |>.mp q
            exact ⟨(P2 qb).1.trans (P1 qa).1, (P1 qa).2.trans (P2 qb).2⟩⟩
      · cases hk
    · cases hk
  · cases hk
theorem pl_andV {f g : PX S Bool} (h : PL V ma f eB aba) (h' : PL V mb g eB abb) : PL V (mAndV ma mb) (pAnd f g) eB (abAndV aba abb) := by
  have := le_andV h h'
  rwa [iAnd_pu] at this
theorem le_orV {f g : IX S Bool} (h : LE V ma f eB aba pa) (h' : LE V mb g eB abb pb) : LE V (mOrV ma mb) (iOr f g) eB (abAndV aba abb) (pa && pb) := by
  intro D D' k hk s c b s' R hf
  unfold abAndV at hk
  split at hk
  · rename_i D1 h1
    split at hk
    · rename_i D2 h2
      split at hk
      · rename_i J hj
        cases hk
        obtain ⟨j1, j2⟩ := joC_of hj
        unfold iOr at hf
        obtain ⟨⟨x, s1⟩, f1, hf⟩ := Option.bind_eq_some_iff.mp hf
        obtain ⟨c1, e1, R1, P1⟩ := lt_asB h D _ h1 s c x s1 R f1
        cases x with
        | true =>
          cases hf
          exact ⟨_, c1, by unfold mOrV; rw [e1]; rfl, R1.le j1, rfl, fun q => P1 (Bool.and_eq_true _ _ |>.mp q).1⟩
        | false =>
          obtain ⟨r, c2, e2, R2, K2, P2⟩ := h' D1 _ _ h2 s1 c1 b s' R1 hf
          exact ⟨r, c2, by unfold mOrV; rw [e1]; exact e2, R2.le j2, K2, fun q => by
            obtain ⟨qa, qb⟩ := Bool.and_eq_true _ _ |>.mp q
            exact ⟨(P2 qb).1.trans (P1 qa).1, (P1 qa).2.trans (P2 qb).2⟩⟩
      · cases hk
    · cases hk
  · cases hk
theorem pl_orV {f g : PX S Bool} (h : PL V ma f eB aba) (h' : PL V mb g eB abb) : PL V (mOrV ma mb) (pOr f g) eB (abAndV aba abb) := by
  have := le_orV h h'
  rwa [iOr_pu] at this
/-- which kind is known of both -/
def toU (k : Kd) (D : List Dc) : Bool := match k with
  | .S i => match D[i]? with
    | some (.O _) => true
    | _ => false
  | _ => true
def joK (k k' : Kd) (D D' : List Dc) : Option Kd := if k = k' then some k else if k.val && k'.val then some .W else if toU k D && toU k' D' then some .U else none
theorem KdOk.W {k : Kd} {t : T} {r : Rs} {c : Cs} (h : KdOk k t r c) (v : k.val = true) : KdOk .W t r c := h.vw v
theorem KdOk.U {k : Kd} {t : T} {r : Rs} {c : Cs} {M : Tab} {D : List Dc} (h : KdOk k t r c) (R : Rep M D c) (v : toU k D = true) : KdOk .U t r c := by
  cases k with
  | F => exact .inl h
  | N => exact .inr (.inl h)
  | W => rcases h with h | h; exact .inl h; exact .inr (.inl h)
  | U => exact h
  | V i => rcases h with h | h; exact .inl h.1; exact .inr (.inr ⟨i, h⟩)
  | S i =>
    obtain ⟨rfl, h⟩ := h
    refine .inr (.inr ⟨i, rfl, ?_⟩)
    rcases h with h | h
    · exact h
    · simp only [toU] at v
      split at v
      · rename_i w hd
        obtain ⟨x, e, o⟩ := R.at hd
        rw [h] at e; cases e; cases o
      · cases v
theorem joK_of {k k' K : Kd} {D D' : List Dc} (h : joK k k' D D' = some K) : (∀ {t r c M}, Rep M D c → KdOk k t r c → KdOk K t r c) ∧ (∀ {t r c M}, Rep M D' c → KdOk k' t r c → KdOk K t r c) := by
  unfold joK at h
  split at h
  · rename_i e; subst e; cases h
    exact ⟨fun _ h => h, fun _ h => h⟩
  · split at h
    · rename_i e; cases h
      obtain ⟨a, b⟩ := Bool.and_eq_true _ _ |>.mp e
      exact ⟨fun _ h => h.W a, fun _ h => h.W b⟩
    · split at h
      · rename_i e; cases h
        obtain ⟨a, b⟩ := Bool.and_eq_true _ _ |>.mp e
        exact ⟨fun R h => h.U R a, fun R h => h.U R b⟩
      · cases h
def abIf (t : AT) (a b : AE) : AE := fun D => match t D with
  | some D1 => match a D1, b D1 with
    | some (D2, k2), some (D3, k3) => match joC D2 D3, joK k2 k3 D2 D3 with
      | some J, some K => some (J, K)
      | _, _ => none
    | _, _ => none
  | none => none
theorem le_if {pt : Bool} {f : IX S Bool} {fa fb : IX S α} (ht : LT V mt f abt pt) (ha : LE V ma fa ea aba pa) (hb : LE V mb fb ea abb pb) : LE V (mIf mt ma mb) (iIf f fa fb) ea (abIf abt aba abb) (pt && (pa && pb)) := by
  intro D D' k hk s c z s' R hf
  unfold abIf at hk
  split at hk
  · rename_i D1 h1
    split at hk
    · rename_i D2 k2 D3 k3 h2 h3
      split at hk
      · rename_i J K hj hkk
        cases hk
        obtain ⟨j1, j2⟩ := joC_of hj
        obtain ⟨q1, q2⟩ := joK_of hkk
        unfold iIf at hf
        obtain ⟨⟨x, s1⟩, f1, hf⟩ := Option.bind_eq_some_iff.mp hf
        obtain ⟨c1, e1, R1, P1⟩ := ht D _ h1 s c x s1 R f1
        cases x with
        | true =>
          obtain ⟨r, c2, e2, R2, K2, P2⟩ := ha D1 _ _ h2 s1 c1 z s' R1 hf
          exact ⟨r, c2, by unfold mIf; rw [e1]; exact e2, R2.le j1, q1 R2 K2, fun q => by
            obtain ⟨qa, qb⟩ := Bool.and_eq_true _ _ |>.mp q
            have qc := (Bool.and_eq_true _ _ |>.mp qb).1
            exact ⟨(P2 qc).1.trans (P1 qa).1, (P1 qa).2.trans (P2 qc).2⟩⟩
        | false =>
          obtain ⟨r, c2, e2, R2, K2, P2⟩ := hb D1 _ _ h3 s1 c1 z s' R1 hf
          exact ⟨r, c2, by unfold mIf; rw [e1]; exact e2, R2.le j2, q2 R2 K2, fun q => by
            obtain ⟨qa, qb⟩ := Bool.and_eq_true _ _ |>.mp q
            have qc := (Bool.and_eq_true _ _ |>.mp qb).2
            exact ⟨(P2 qc).1.trans (P1 qa).1, (P1 qa).2.trans (P2 qc).2⟩⟩
      · cases hk
    · cases hk
  · cases hk
theorem pl_if {f : PX S Bool} {fa fb : PX S α} (ht : PT V mt f abt) (ha : PL V ma fa ea aba) (hb : PL V mb fb ea abb) : PL V (mIf mt ma mb) (pIf f fa fb) ea (abIf abt aba abb) := by
  have := le_if ht ha hb
  rwa [iIf_pu] at this
/-- a op b op' c -/
def abCh (a b c : AE) : AE := fun D => match a D with
  | some (D1, _) => match b D1 with
    | some (D2, _) => match c D2 with
      | some (D3, _) => match joC D2 D3 with
        | some J => some (J, .F)
        | none => none
      | none => none
    | none => none
  | none => none
theorem pl_ch {Fm Fm' : T → T → Option Out} {F : α → β → Option Bool} {F' : β → γ → Option Bool} {fa : PX S α} {fb : PX S β} {fc : PX S γ} {abc : AE}
    (hF : ∀ x y z, F x y = some z → Fm (ea x) (eb y) = some (mo false (eB z))) (hF' : ∀ x y z, F' x y = some z → Fm' (eb x) (eg y) = some (mo false (eB z)))
    (ha : PL V ma fa ea aba) (hb : PL V mb fb eb abb) (hc : PL V mc fc eg abc) : PL V (mChain Fm Fm' ma mb mc) (pCh F F' fa fb fc) eB (abCh aba abb abc) := by
  intro D D' k hk s c z s' R hf
  obtain ⟨hf, rfl⟩ := pu_of hf
  unfold abCh at hk
  split at hk
  · rename_i D1 k1 h1
    split at hk
    · rename_i D2 k2 h2
      split at hk
      · rename_i D3 k3 h3
        split at hk
        · rename_i J hj
          cases hk
          obtain ⟨j1, j2⟩ := joC_of hj
          unfold pCh at hf
          obtain ⟨x, f1, hf⟩ := Option.bind_eq_some_iff.mp hf
          obtain ⟨y, f2, hf⟩ := Option.bind_eq_some_iff.mp hf
          obtain ⟨t, f3, hf⟩ := Option.bind_eq_some_iff.mp hf
          obtain ⟨ra, c1, e1, R1, K1, P1⟩ := ha D _ _ h1 s' c x s' R (by unfold pu; rw [f1]; rfl)
          obtain ⟨rb, c2, e2, R2, K2, P2⟩ := hb D1 _ _ h2 s' c1 y s' R1 (by unfold pu; rw [f2]; rfl)
          have g1 := hF _ _ _ f3
          have p1 := K1.pk' (P2 rfl).2
          cases t with
          | false =>
            simp only [Bool.false_eq_true, if_false] at hf
            cases hf
            exact ⟨.fz (.bool false), c2, by unfold mChain; rw [e1]; simp only [e2, p1, K2.pk, g1, mo, eB], R2.le j1, rfl, fun _ => ⟨rfl, (P1 rfl).2.trans (P2 rfl).2⟩⟩
          | true =>
            simp only [if_true] at hf
            obtain ⟨w, f4, hf⟩ := Option.bind_eq_some_iff.mp hf
            obtain ⟨rc, c3, e3, R3, K3, P3⟩ := hc D2 _ _ h3 s' c2 w s' R2 (by unfold pu; rw [f4]; rfl)
            have g2 := hF' _ _ _ hf
            exact ⟨.fz (.bool z), c3, by unfold mChain; rw [e1]; simp only [e2, p1, K2.pk, g1, mo, eB, e3, K2.pk' (P3 rfl).2, K3.pk, g2, Out.rs], R3.le j2, rfl, fun _ => ⟨rfl, ((P1 rfl).2.trans (P2 rfl).2).trans (P3 rfl).2⟩⟩
        · cases hk
      · cases hk
    · cases hk
  · cases hk
end
end
end TY
namespace TY
open PySem PySem.Spec L2 TL
section
variable {S α β γ δ ω : Type}
variable {V : S → Tab} {m ma mb mc : ME} {mt mn : MT} {ms : MA} {mi : MI} {ea : En α} {eb : En β} {eg : En γ} {ew : En ω} {fa : IX S α} {fb : IX S β} {aba abb : AE} {abt abn abi : AT} {abs : AA} {p pa pb : Bool} {i v : Nat}
/-! ### arguments -/
def abNil : AA := fun D => some (D, true)
def isF : Kd → Bool
  | .F => true
  | _ => false
def abCons (a : AE) (b : AA) (pb : Bool) : AA := fun D => match a D with
  | some (D1, k) => match b D1 with
    | some (D2, q) => if k.val || pb then some (D2, isF k && q) else none
    | none => none
  | none => none
def eNil : Unit → List T := fun _ => []
def eCons (ea : En α) (eb : β → List T) : α × β → List T := fun p => ea p.1 :: eb p.2
theorem pa_nil : PA V mNil pNil eNil abNil := by
  intro D D' q hk s c x s' R hf
  obtain ⟨h1, rfl⟩ := pu_of hf
  cases hk
  exact ⟨[], c, rfl, R, rfl, fun _ => rfl, fun _ => ⟨rfl, .refl⟩⟩
theorem la_cons {fs : IX S β} {es : β → List T} (ha : LE V m fa ea aba pa) (hs : LA V ms fs es abs pb) : LA V (mCons m ms) (iCons fa fs) (eCons ea es) (abCons aba abs pb) (pa && pb) := by
  intro D D' q hk s c z s' R hf
  unfold abCons at hk
  split at hk
  · rename_i D1 k1 h1
    split at hk
    · rename_i D2 q2 h2
      split at hk
      · rename_i hv
        cases hk
        unfold iCons at hf
        obtain ⟨⟨x, s1⟩, f1, hf⟩ := Option.bind_eq_some_iff.mp hf
        obtain ⟨⟨y, s2⟩, f2, hf⟩ := Option.map_eq_some_iff.mp hf
        cases hf
        obtain ⟨r, c1, e1, R1, K1, P1⟩ := ha D D1 k1 h1 s c x s1 R f1
        obtain ⟨rs, c2, e2, R2, K2, Q2, P2⟩ := hs D1 _ q2 h2 s1 c1 y s2 R1 f2
        have pk1 : TL.pk r c2 = some (ea x) := by
          rw [Bool.or_eq_true] at hv
          rcases hv with hv | hv
          · exact K1.pkv hv
          · exact K1.pk' (P2 hv).2
        refine ⟨r :: rs, c2, by unfold mCons; rw [e1]; simp only [e2], R2, by simp only [pks, pk1, K2]; rfl, fun qq => ?_, fun q => ?_⟩
        · obtain ⟨qa, qb⟩ := Bool.and_eq_true _ _ |>.mp qq
          cases k1 <;> simp only [isF, Bool.false_eq_true] at qa
          cases K1
          rw [Q2 qb]; rfl
        · rw [Bool.and_eq_true] at q
          exact ⟨(P2 q.2).1.trans (P1 q.1).1, (P1 q.1).2.trans (P2 q.2).2⟩
      · cases hk
    · cases hk
  · cases hk
theorem pa_cons {fa : PX S α} {fs : PX S β} {es : β → List T} (ha : PL V m fa ea aba) (hs : PA V ms fs es abs) : PA V (mCons m ms) (pCons fa fs) (eCons ea es) (abCons aba abs true) := by
  have := la_cons ha hs
  rwa [iCons_pu] at this
theorem fzs_map : ∀ ts : List T, fzs (ts.map Rs.fz) = some ts
  | [] => rfl
  | t :: r => by simp only [List.map_cons, fzs, fzs_map r]
/-! displays; g puts the values together -/
def pMap (g : α → β) (a : PX S α) : PX S β := fun s => (a s).map g
def iMap (g : α → β) (a : IX S α) : IX S β := fun s => (a s).map fun x => (g x.1, x.2)
theorem iMap_pu {g : α → β} {a : PX S α} : iMap g (pu a) = pu (pMap g a) := by
  funext s; simp only [iMap, pu, pMap]; cases a s <;> simp
def abDis (k : Kd) (a : AA) : AE := fun D => match a D with
  | some (D1, true) => some (D1, k)
  | _ => none
theorem le_tup {f : IX S α} {es : α → List T} {g : α → β} (hg : ∀ a, eb (g a) = .tuple (es a)) (hl : ∀ a, (es a).length ≤ sizeLine) (h : LA V ms f es abs p) : LE V (mTup ms) (iMap g f) eb (abDis .F abs) p := by
  intro D D' k hk s c z s' R hf
  unfold abDis at hk
  split at hk
  · rename_i D1 h1
    cases hk
    unfold iMap at hf
    obtain ⟨⟨x, s1⟩, f1, hf⟩ := Option.map_eq_some_iff.mp hf
    cases hf
    obtain ⟨rs, c1, e1, R1, K1, Q1, P1⟩ := h D _ _ h1 s c x s1 R f1
    rw [Q1 rfl] at e1
    exact ⟨.fz (.tuple (es x)), c1, by unfold mTup; rw [e1]; simp only [fzs_map, hl, if_true], R1, by show _ = _; rw [hg], P1⟩
  · cases hk
theorem pl_tup {f : PX S α} {es : α → List T} {g : α → β} (hg : ∀ a, eb (g a) = .tuple (es a)) (hl : ∀ a, (es a).length ≤ sizeLine) (h : PA V ms f es abs) : PL V (mTup ms) (pMap g f) eb (abDis .F abs) := by
  have := le_tup hg hl h
  rwa [iMap_pu] at this
theorem le_lst {f : IX S α} {es : α → List T} {g : α → β} (hg : ∀ a, eb (g a) = .list (es a)) (hl : ∀ a, (es a).length ≤ sizeLine) (h : LA V ms f es abs p) : LE V (mLst ms) (iMap g f) eb (abDis .N abs) p := by
  intro D D' k hk s c z s' R hf
  unfold abDis at hk
  split at hk
  · rename_i D1 h1
    cases hk
    unfold iMap at hf
    obtain ⟨⟨x, s1⟩, f1, hf⟩ := Option.map_eq_some_iff.mp hf
    cases hf
    obtain ⟨rs, c1, e1, R1, K1, Q1, P1⟩ := h D _ _ h1 s c x s1 R f1
    rw [Q1 rfl] at e1
    exact ⟨.nw (.list (es x)), c1, by unfold mLst; rw [e1]; simp only [fzs_map, hl, if_true], R1, by show _ = _; rw [hg], P1⟩
  · cases hk
theorem pl_lst {f : PX S α} {es : α → List T} {g : α → β} (hg : ∀ a, eb (g a) = .list (es a)) (hl : ∀ a, (es a).length ≤ sizeLine) (h : PA V ms f es abs) : PL V (mLst ms) (pMap g f) eb (abDis .N abs) := by
  have := le_lst hg hl h
  rwa [iMap_pu] at this
/-! ### builtin calls -/
def abCall (o : Bool) (a : AA) : AE := fun D => match a D with
  | some (D1, _) => some (D1, ko o)
  | _ => none
theorem le_call {Fm : List T → Option Out} {G : α → Option β} {o : Bool} {f : IX S α} {es : α → List T} (hG : ∀ a b, G a = some b → Fm (es a) = some (mo o (eb b))) (h : LA V ms f es abs p) : LE V (mCall Fm ms) (iUn G f) eb (abCall o abs) p := by
  intro D D' k hk s c z s' R hf
  unfold abCall at hk
  split at hk
  · rename_i D1 q1 h1
    cases hk
    unfold iUn at hf
    obtain ⟨⟨x, s1⟩, f1, hf⟩ := Option.bind_eq_some_iff.mp hf
    obtain ⟨z', f3, hf⟩ := Option.map_eq_some_iff.mp hf
    cases hf
    obtain ⟨rs, c1, e1, R1, K1, Q1, P1⟩ := h D _ _ h1 s c x s1 R f1
    exact ⟨_, c1, by unfold mCall; rw [e1]; simp only [K1, hG _ _ f3], R1, mo_ok, P1⟩
  · cases hk
theorem pl_call {Fm : List T → Option Out} {G : α → Option β} {o : Bool} {f : PX S α} {es : α → List T} (hG : ∀ a b, G a = some b → Fm (es a) = some (mo o (eb b))) (h : PA V ms f es abs) : PL V (mCall Fm ms) (pUn G f) eb (abCall o abs) := by
  have := le_call hG h
  rwa [iUn_pu] at this
/-! ### calls of defs -/
def OkO (k : Kd) (t : T) (o : Out) : Prop := match k with
  | .F => o = .fz t
  | .N => o = .nw t
  | .W => o = .fz t ∨ o = .nw t
  | _ => False
theorem OkO.kd {k : Kd} {t : T} {o : Out} {c : Cs} (h : OkO k t o) : KdOk k t o.rs c := by
  cases k with
  | F => cases h; rfl
  | N => cases h; rfl
  | W => rcases h with rfl | rfl; exact .inl rfl; exact .inr rfl
  | S i => exact h.elim
  | V i => exact h.elim
  | U => exact h.elim
def FnP (F : FN) (f : α → Option β) (es : α → List T) (er : En β) (k : Kd) : Prop := ∀ a b, f a = some b → ∃ o c', F ((es a).map .fz) = some (o, c') ∧ OkO k (er b) o
def FnB (F : FN) (f : ω → α → Option (β × ω)) (ew : En ω) (es : α → List T) (er : En β) (k : Kd) : Prop := ∀ w a b w', f w a = some (b, w') → ∃ o c', F (.bo (ew w) :: (es a).map .fz) = some (o, .bo (ew w') :: c') ∧ OkO k (er b) o
def abFn (k : Kd) (a : AA) : AE := fun D => match a D with
  | some (D1, true) => some (D1, k)
  | _ => none
theorem le_fn {F : FN} {g : α → Option β} {f : IX S α} {es : α → List T} {k : Kd} (hF : FnP F g es eb k) (h : LA V ms f es abs p) : LE V (mCal F ms) (iUn g f) eb (abFn k abs) p := by
  intro D D' k' hk s c z s' R hf
  unfold abFn at hk
  split at hk
  · rename_i D1 h1
    cases hk
    unfold iUn at hf
    obtain ⟨⟨x, s1⟩, f1, hf⟩ := Option.bind_eq_some_iff.mp hf
    obtain ⟨z', f3, hf⟩ := Option.map_eq_some_iff.mp hf
    cases hf
    obtain ⟨rs, c1, e1, R1, K1, Q1, P1⟩ := h D _ _ h1 s c x s1 R f1
    obtain ⟨o, cc, e2, ok⟩ := hF _ _ f3
    rw [Q1 rfl] at e1
    exact ⟨_, c1, by unfold mCal; rw [e1]; simp only [fzs_map, e2], R1, ok.kd, P1⟩
  · cases hk
theorem pl_fn {F : FN} {g : α → Option β} {f : PX S α} {es : α → List T} {k : Kd} (hF : FnP F g es eb k) (h : PA V ms f es abs) : PL V (mCal F ms) (pUn g f) eb (abFn k abs) := by
  have := le_fn hF h
  rwa [iUn_pu] at this
/-- what a setter of a slot does -/
def SetS (V : S → Tab) (i v : Nat) (e : En α) (set : α → S → S) : Prop := ∀ a s, Upd (V s) (V (set a s)) i v (e a)
theorem setS_of {i v : Nat} {e : En α} {set : α → S → S} (h : ∀ a s, ∃ row, V (set a s) = (V s).set i row) (h' : ∀ a s, acc (V (set a s)) i v = e a) : SetS V i v e set := fun a s => ⟨h' a s, fun j ne => by
  obtain ⟨row, e⟩ := h a s
  rw [e, acc_set ne]⟩
def lentD (D : List Dc) (i v : Nat) : Bool := match D[i]? with
  | some (.O w) => w == v
  | some (.B w) => w == v
  | _ => false
def abFnB (i v : Nat) (k : Kd) (a : AA) : AE := fun D => match lentD D i v, a D with
  | true, some (D1, true) => if lentD D1 i v then some (D1, k) else none
  | _, _ => none
theorem lent_at {M : Tab} {D : List Dc} {c : Cs} (R : Rep M D c) (h : lentD D i v = true) : (D[i]? = some (.O v) ∧ c[i]? = some (.ow (acc M i v))) ∨ (D[i]? = some (.B v) ∧ c[i]? = some (.bo (acc M i v))) := by
  unfold lentD at h
  split at h
  · rename_i w hd
    have := beq_iff_eq.mp h; subst this
    obtain ⟨x, e, o⟩ := R.at hd
    cases o
    exact .inl ⟨hd, e⟩
  · rename_i w hd
    have := beq_iff_eq.mp h; subst this
    obtain ⟨x, e, o⟩ := R.at hd
    cases o
    exact .inr ⟨hd, e⟩
  · cases h
theorem rep_ow {M M' : Tab} {D : List Dc} {c : Cs} {t : T} (R : Rep M D c) (u : Upd M M' i v t) (h : D[i]? = some (.O v)) : Rep M' D (c.set i (.ow t)) := by
  have := R.set (x := .ow t) (d := .O v) (lt_of_getD h) (by show _ = _; rw [u.1]) u.2
  have e : D.set i (.O v) = D := by
    refine List.ext_getElem? fun j => ?_
    by_cases ne : j = i
    · subst ne; rw [setD_at (lt_of_getD h), h]
    · rw [setD_off ne]
  rwa [e] at this
theorem rep_bo {M M' : Tab} {D : List Dc} {c : Cs} {t : T} (R : Rep M D c) (u : Upd M M' i v t) (h : D[i]? = some (.B v)) : Rep M' D (c.set i (.bo t)) := by
  have := R.set (x := .bo t) (d := .B v) (lt_of_getD h) (by show _ = _; rw [u.1]) u.2
  have e : D.set i (.B v) = D := by
    refine List.ext_getElem? fun j => ?_
    by_cases ne : j = i
    · subst ne; rw [setD_at (lt_of_getD h), h]
    · rw [setD_off ne]
  rwa [e] at this
theorem le_fnB {F : FN} {g : ω → α → Option (β × ω)} {f : IX S α} {es : α → List T} {k : Kd} {get : S → ω} {set : ω → S → S} (hF : FnB F g ew es eb k) (hg : ∀ s, acc (V s) i v = ew (get s)) (hs : SetS V i v ew set) (h : LA V ms f es abs p) :
    LE V (mCalB F (mCons (mV i) ms)) (iFnB get set g f) eb (abFnB i v k abs) false := by
  intro D D' k' hk s c z s' R hf
  unfold abFnB at hk
  split at hk
  · rename_i D1 hl h1
    split at hk
    · rename_i hl1
      cases hk
      unfold iFnB at hf
      obtain ⟨⟨x, s1⟩, f1, hf⟩ := Option.bind_eq_some_iff.mp hf
      obtain ⟨⟨b, w'⟩, f3, hf⟩ := Option.map_eq_some_iff.mp hf
      cases hf
      obtain ⟨rs, c1, e1, R1, K1, Q1, P1⟩ := h D _ _ h1 s c x s1 R f1
      obtain ⟨o, cc, e2, ok⟩ := hF _ _ _ _ f3
      rw [Q1 rfl] at e1
      have ev : mV i c = some (.sl i, c) := by
        rcases lent_at R hl with ⟨_, e⟩ | ⟨_, e⟩ <;> (unfold mV; rw [e])
      have ec : mCons (mV i) ms c = some (.sl i :: (es x).map .fz, c1) := by unfold mCons; rw [ev]; simp only [e1]
      rcases lent_at R1 hl1 with ⟨hd, e⟩ | ⟨hd, e⟩ <;> rw [hg] at e
      · exact ⟨o.rs, c1.set i (.ow (ew w')), by unfold mCalB; rw [ec]; simp only [fzs_map, e, e2], rep_ow R1 (hs _ _) hd, ok.kd, fun q => by cases q⟩
      · exact ⟨o.rs, c1.set i (.bo (ew w')), by unfold mCalB; rw [ec]; simp only [fzs_map, e, e2], rep_bo R1 (hs _ _) hd, ok.kd, fun q => by cases q⟩
    · cases hk
  · cases hk
/-! ### methods that change an own object -/
def iMut (get : S → ω) (set : ω → S → S) (G : ω → α → Option (ω × β)) (a : IX S α) : IX S β := fun s => (a s).bind fun x => (G (get x.2) x.1).map fun y => (y.2, set y.1 x.2)
def abMut (i v : Nat) (a : AA) : AE := fun D => match lentD D i v, a D with
  | true, some (D1, true) => if D1[i]? = D[i]? ∧ lentD D1 i v then some (D1, .F) else none
  | _, _ => none
theorem le_mut {n : String} {Fm : T → List T → Option (T × T)} {G : ω → α → Option (ω × β)} {f : IX S α} {es : α → List T} {get : S → ω} {set : ω → S → S} (hG : ∀ w a w' b, G w a = some (w', b) → Fm (ew w) (es a) = some (ew w', eb b))
    (hty : ∀ w, isTy n (ew w) = true) (hg : ∀ s, acc (V s) i v = ew (get s)) (hs : SetS V i v ew set) (h : LA V ms f es abs p) : LE V (mMut i n Fm ms) (iMut get set G f) eb (abMut i v abs) false := by
  intro D D' k' hk s c z s' R hf
  unfold abMut at hk
  split at hk
  · rename_i D1 hl h1
    split at hk
    · rename_i hl1
      obtain ⟨heq, hl1⟩ := hl1
      cases hk
      unfold iMut at hf
      obtain ⟨⟨x, s1⟩, f1, hf⟩ := Option.bind_eq_some_iff.mp hf
      obtain ⟨⟨w', b⟩, f3, hf⟩ := Option.map_eq_some_iff.mp hf
      cases hf
      obtain ⟨rs, c1, e1, R1, K1, Q1, P1⟩ := h D _ _ h1 s c x s1 R f1
      have e2 := hG _ _ _ _ f3
      rw [Q1 rfl] at e1
      rcases lent_at R1 hl1 with ⟨hd, e⟩ | ⟨hd, e⟩ <;> rw [hg] at e
      · rcases lent_at R hl with ⟨hd0, e0⟩ | ⟨hd0, e0⟩
        · rw [hg] at e0
          exact ⟨.fz (eb b), c1.set i (.ow (ew w')), by unfold mMut; rw [e0]; simp only [hty, if_true, e1, fzs_map, e, e2], rep_ow R1 (hs _ _) hd, rfl, fun q => by cases q⟩
        · rw [heq, hd0] at hd; cases hd
      · rcases lent_at R hl with ⟨hd0, e0⟩ | ⟨hd0, e0⟩
        · rw [heq, hd0] at hd; cases hd
        · rw [hg] at e0
          exact ⟨.fz (eb b), c1.set i (.bo (ew w')), by unfold mMut; rw [e0]; simp only [hty, if_true, e1, fzs_map, e, e2], rep_bo R1 (hs _ _) hd, rfl, fun q => by cases q⟩
    · cases hk
  · cases hk
/-! ### what is walked -/
def abSq (a : AE) : AT := fun D => match a D with
  | some (D1, k) => frzD k D1
  | none => none
theorem li_seqL {fa : IX S (List α)} (h : LE V m fa (eL ea) aba p) : LI V (iSeq m) fa ea (abSq aba) p := by
  intro D D' hk s c xs s' R hf
  unfold abSq at hk
  split at hk
  · rename_i D1 k1 h1
    obtain ⟨r, c1, e1, R1, K1, P1⟩ := h D _ _ h1 s c xs s' R hf
    obtain ⟨c2, e2, R2, F2⟩ := frz_ok K1 R1 hk
    exact ⟨c2, by unfold iSeq; rw [e1]; simp only [e2, eL], R2, fun q => ⟨(P1 q).1, (P1 q).2.trans F2⟩⟩
  · cases hk
theorem li_seqT {fa : IX S (List α)} (h : LE V m fa (eT ea) aba p) : LI V (iSeq m) fa ea (abSq aba) p := by
  intro D D' hk s c xs s' R hf
  unfold abSq at hk
  split at hk
  · rename_i D1 k1 h1
    obtain ⟨r, c1, e1, R1, K1, P1⟩ := h D _ _ h1 s c xs s' R hf
    obtain ⟨c2, e2, R2, F2⟩ := frz_ok K1 R1 hk
    exact ⟨c2, by unfold iSeq; rw [e1]; simp only [e2, eT], R2, fun q => ⟨(P1 q).1, (P1 q).2.trans F2⟩⟩
  · cases hk
/-- a written tuple of values of one kind is walked -/
theorem li_seqX {fb : IX S β} {un : β → List α} (hu : ∀ x, eb x = .tuple ((un x).map ea)) (h : LE V m fb eb aba p) : LI V (iSeq m) (iMap un fb) ea (abSq aba) p := by
  intro D D' hk s c xs s' R hf
  unfold abSq at hk
  split at hk
  · rename_i D1 k1 h1
    unfold iMap at hf
    obtain ⟨⟨x, s1⟩, f1, hf⟩ := Option.map_eq_some_iff.mp hf
    cases hf
    obtain ⟨r, c1, e1, R1, K1, P1⟩ := h D _ _ h1 s c x s1 R f1
    rw [hu] at K1
    obtain ⟨c2, e2, R2, F2⟩ := frz_ok K1 R1 hk
    exact ⟨c2, by unfold iSeq; rw [e1]; simp only [e2], R2, fun q => ⟨(P1 q).1, (P1 q).2.trans F2⟩⟩
  · cases hk
def abAT (a : AA) : AT := fun D => match a D with
  | some (D1, true) => some D1
  | _ => none
/-- range -/
def rng (lo hi : Int) : List Int := (List.range (hi - lo).toNat).map fun (k : Nat) => lo + k
theorem rng_enc (lo hi : Int) : rngT lo (hi - lo).toNat = (rng lo hi).map eI := by
  unfold rngT rng
  rw [List.map_map]; rfl
def inRg (j : Int) : Bool := decide (-(2 ^ 62) ≤ j) && decide (j < 2 ^ 62)
def rng1 (a : Int × Unit) : Option (List Int) := if inRg a.1 then some (rng 0 a.1) else none
def rng2 (a : Int × Int × Unit) : Option (List Int) := if inRg a.1 && inRg a.2.1 then some (rng a.1 a.2.1) else none
theorem li_rng1 {f : IX S (Int × Unit)} (h : LA V ms f (eCons eI eNil) abs p) : LI V (iRange ms) (iUn rng1 f) eI (abAT abs) p := by
  intro D D' hk s c xs s' R hf
  unfold abAT at hk
  split at hk
  · rename_i D1 h1
    cases hk
    unfold iUn at hf
    obtain ⟨⟨x, s1⟩, f1, hf⟩ := Option.bind_eq_some_iff.mp hf
    obtain ⟨z', f3, hf⟩ := Option.map_eq_some_iff.mp hf
    cases hf
    obtain ⟨rs, c1, e1, R1, K1, Q1, P1⟩ := h D _ _ h1 s c x s1 R f1
    rw [Q1 rfl] at e1
    refine ⟨c1, ?_, R1, P1⟩
    unfold rng1 at f3
    split at f3
    · rename_i hr
      cases f3
      simp only [inRg, Bool.and_eq_true, decide_eq_true_eq] at hr
      unfold iRange
      rw [e1]
      show (if -(2 ^ 62) ≤ x.1 ∧ x.1 < 2 ^ 62 then some (rngT 0 x.1.toNat, c1) else none) = _
      rw [if_pos hr, ← rng_enc, Int.sub_zero]
    · cases f3
  · cases hk
theorem li_rng2 {f : IX S (Int × Int × Unit)} (h : LA V ms f (eCons eI (eCons eI eNil)) abs p) : LI V (iRange ms) (iUn rng2 f) eI (abAT abs) p := by
  intro D D' hk s c xs s' R hf
  unfold abAT at hk
  split at hk
  · rename_i D1 h1
    cases hk
    unfold iUn at hf
    obtain ⟨⟨x, s1⟩, f1, hf⟩ := Option.bind_eq_some_iff.mp hf
    obtain ⟨z', f3, hf⟩ := Option.map_eq_some_iff.mp hf
    cases hf
    obtain ⟨rs, c1, e1, R1, K1, Q1, P1⟩ := h D _ _ h1 s c x s1 R f1
    rw [Q1 rfl] at e1
    refine ⟨c1, ?_, R1, P1⟩
    unfold rng2 at f3
    split at f3
    · rename_i hr
      cases f3
      simp only [inRg, Bool.and_eq_true, decide_eq_true_eq] at hr
      unfold iRange
      rw [e1]
      show (if -(2 ^ 62) ≤ x.1 ∧ x.1 < 2 ^ 62 ∧ -(2 ^ 62) ≤ x.2.1 ∧ x.2.1 < 2 ^ 62 then some (rngT x.1 (x.2.1 - x.1).toNat, c1) else none) = _
      rw [if_pos ⟨hr.1.1, hr.1.2, hr.2.1, hr.2.2⟩, ← rng_enc]
    · cases f3
  · cases hk
theorem pi_of {fa : IX S (List α)} {g : PX S (List α)} (h : LI V mi fa ea abi true) (e : fa = pu g) : PI V mi g ea abi := by subst e; exact h
theorem pi_rng1 {f : PX S (Int × Unit)} (h : PA V ms f (eCons eI eNil) abs) : PI V (iRange ms) (pUn rng1 f) eI (abAT abs) := pi_of (li_rng1 h) iUn_pu
theorem pi_rng2 {f : PX S (Int × Int × Unit)} (h : PA V ms f (eCons eI (eCons eI eNil)) abs) : PI V (iRange ms) (pUn rng2 f) eI (abAT abs) := pi_of (li_rng2 h) iUn_pu
theorem pi_seqX {fb : PX S β} {un : β → List α} (hu : ∀ x, eb x = .tuple ((un x).map ea)) (h : PL V m fb eb aba) : PI V (iSeq m) (pMap un fb) ea (abSq aba) := pi_of (li_seqX hu h) iMap_pu
/-! zip of two lists, of two tuples -/
def zip2 (a : List α × List β × Unit) : Option (List (α × β)) := some (a.1.zip a.2.1)
theorem zip_enc : ∀ (xs : List α) (ys : List β), zipT (xs.map ea) (ys.map eb) = (xs.zip ys).map (e2 ea eb)
  | [], ys => by simp [zipT]
  | x :: xs, [] => by simp [zipT]
  | x :: xs, y :: ys => by
    have ih := zip_enc xs ys
    simp only [zipT] at ih
    simp only [zipT, List.map_cons, List.zipWith_cons_cons, List.zip_cons_cons, ih]
    rfl
/-! ### targets of stores and loops -/
def LG (V : S → Tab) (g : MG) (set : α → S → S) (e : En α) (ab : AT) (ws : List Nat) : Prop := ∀ D D', ab D = some D' → ∀ s c x, Rep (V s) D c → ∃ c', g (e x) c = some c' ∧ Rep (V (set x s)) D' c' ∧ (∀ j, j ∉ ws → c'[j]? = c[j]? ∧ acc (V (set x s)) j = acc (V s) j)
def LGs (V : S → Tab) (g : MGs) (set : α → S → S) (e : α → List T) (ab : AT) (ws : List Nat) : Prop := ∀ D D', ab D = some D' → ∀ s c x, Rep (V s) D c → ∃ c', g (e x) c = some c' ∧ Rep (V (set x s)) D' c' ∧ (∀ j, j ∉ ws → c'[j]? = c[j]? ∧ acc (V (set x s)) j = acc (V s) j)
theorem setR_fzc {i : Nat} {t : T} {c c' : Cs} (h : setR i (.fz t) c = some c') : c' = c.set i (.fz t) := by
  unfold setR at h
  split at h
  · cases h
  · cases h
  · cases h; rfl
theorem lg_n {set : α → S → S} (hs : SetS V i v ea set) : LG V (gN i) set ea (storeD .F i v) [i] := by
  intro D D' hk s c x R
  obtain ⟨c', e, R'⟩ := store_ok (k := .F) rfl R hk (hs x s)
  refine ⟨c', e, R', fun j hj => ?_⟩
  have ne : j ≠ i := fun z => hj (by rw [z]; exact List.mem_singleton.mpr rfl)
  rw [setR_fzc e]
  exact ⟨set_off ne, (hs x s).2 j ne⟩
theorem lgs_nil : LGs V gLNil (fun (_ : Unit) (s : S) => s) eNil some [] := by
  intro D D' hk s c x R
  cases hk
  exact ⟨c, rfl, R, fun j _ => ⟨rfl, rfl⟩⟩
def abThen (a b : AT) : AT := fun D => match a D with
  | some D1 => b D1
  | none => none
theorem lgs_cons {g : MG} {gs : MGs} {set : α → S → S} {set' : β → S → S} {es : β → List T} {ws ws' : List Nat} (h : LG V g set ea abt ws) (h' : LGs V gs set' es abn ws') : LGs V (gLCons g gs) (fun (p : α × β) s => set' p.2 (set p.1 s)) (eCons ea es) (abThen abt abn) (ws ++ ws') := by
  intro D D' hk s c x R
  unfold abThen at hk
  split at hk
  · rename_i D1 h1
    obtain ⟨c1, e1, R1, f1⟩ := h D _ h1 s c x.1 R
    obtain ⟨c2, e2, R2, f2⟩ := h' D1 _ hk _ c1 x.2 R1
    refine ⟨c2, by show (match g (ea x.1) c with | some cs1 => gs (es x.2) cs1 | none => none) = _; rw [e1]; exact e2, R2, fun j hj => ?_⟩
    have g1 := f1 j fun z => hj (List.mem_append_left _ z)
    have g2 := f2 j fun z => hj (List.mem_append_right _ z)
    exact ⟨g2.1.trans g1.1, g2.2.trans g1.2⟩
  · cases hk
/-- to take a tuple apart; un tells the nested row -/
theorem lg_tp {n : Nat} {gs : MGs} {set : β → S → S} {es : β → List T} {un : α → β} {ws : List Nat} (h : LGs V gs set es abt ws) (hu : ∀ x, ea x = .tuple (es (un x))) (hn : ∀ x, (es x).length = n) : LG V (gTp n gs) (fun x s => set (un x) s) ea abt ws := by
  intro D D' hk s c x R
  obtain ⟨c1, e1, R1⟩ := h D _ hk s c (un x) R
  exact ⟨c1, by rw [hu]; show (if (es (un x)).length = n then gs (es (un x)) c else none) = _; rw [if_pos (hn _)]; exact e1, R1⟩
end
end TY
namespace TY
open PySem PySem.Spec L2 TL
/-! ### wiped slots -/
def wipeD (D : List Dc) : List Nat → List Dc
  | [] => D
  | v :: vs => (wipeD D vs).set v .X
def restD (D : List Dc) : List Nat → List Dc → List Dc
  | [], d => d
  | v :: vs, d => match D[v]? with
    | some x => (restD D vs d).set v x
    | none => restD D vs d
theorem wipeD_length (D : List Dc) : ∀ vs, (wipeD D vs).length = D.length
  | [] => rfl
  | v :: vs => by rw [wipeD, List.length_set, wipeD_length D vs]
theorem restD_length (D : List Dc) : ∀ vs d, (restD D vs d).length = d.length
  | [], d => rfl
  | v :: vs, d => by
    rw [restD]
    split
    · rw [List.length_set, restD_length D vs]
    · rw [restD_length D vs]
theorem wipeD_in {D : List Dc} {i : Nat} : ∀ {vs : List Nat}, i ∈ vs → ∀ d, (wipeD D vs)[i]? = some d → d = .X
  | v :: vs, h, d, e => by
    rw [wipeD] at e
    by_cases ne : i = v
    · subst ne
      have := lt_of_getD e
      rw [List.length_set] at this
      rw [setD_at this] at e; cases e; rfl
    · rw [setD_off ne] at e
      rcases List.mem_cons.mp h with h | h
      · exact absurd h ne
      · exact wipeD_in h d e
theorem Rep.wipe {M : Tab} {D : List Dc} {c : Cs} (R : Rep M D c) : ∀ vs, Rep M (wipeD D vs) (wipeC c vs)
  | [] => R
  | v :: vs => by
    have ih := Rep.wipe R vs
    rw [wipeD, wipeC]
    by_cases hv : v < (wipeD D vs).length
    · exact ih.set hv (fun u z => by cases z) fun _ _ => rfl
    · have e1 : (wipeD D vs).set v .X = wipeD D vs := List.set_eq_of_length_le (by omega)
      have e2 : (wipeC c vs).set v .un = wipeC c vs := List.set_eq_of_length_le (by rw [ih.1]; omega)
      rw [e1, e2]; exact ih
theorem Rep.off {M M' : Tab} {D : List Dc} {c : Cs} (R : Rep M D c) (h : ∀ i d, D[i]? = some d → d = .X ∨ acc M' i = acc M i) : Rep M' D c := by
  refine ⟨R.1, fun i d e => ?_⟩
  obtain ⟨x, e1, o⟩ := R.2 i d e
  refine ⟨x, e1, ?_⟩
  rcases h i d e with rfl | h
  · exact o
  · rw [h]; exact o
theorem Rep.wipe' {M M' : Tab} {D : List Dc} {c : Cs} {own : List Nat} (R : Rep M D c) (h : ∀ j, j ∉ own → acc M' j = acc M j) : Rep M' (wipeD D own) (wipeC c own) :=
  (R.wipe own).off fun i d e => by
    by_cases hi : i ∈ own
    · exact .inl (wipeD_in hi d e)
    · exact .inr (h i hi)
theorem Rep.rest {M : Tab} {D1 D2 : List Dc} {c1 c2 : Cs} (R1 : Rep M D1 c1) (R2 : Rep M D2 c2) (hl : D1.length = D2.length) : ∀ own, Rep M (restD D1 own D2) (restC c1 own c2)
  | [] => R2
  | v :: vs => by
    have ih := Rep.rest R1 R2 hl vs
    rw [restD, restC]
    cases e : D1[v]? with
    | none =>
      have : c1[v]? = none := by
        rw [List.getElem?_eq_none_iff] at e ⊢
        rw [R1.1]; exact e
      rw [this]
      exact ih
    | some x =>
      obtain ⟨y, e1, o⟩ := R1.2 v x e
      rw [e1]
      exact ih.set (by rw [restD_length, ← hl]; exact lt_of_getD e) o fun _ _ => rfl
/-- .. with the values of two states -/
theorem Rep.rest' {M M1 M2 : Tab} {D1 D2 : List Dc} {c1 c2 : Cs} {own : List Nat} (R1 : Rep M1 D1 c1) (R2 : Rep M2 D2 c2) (hl : D1.length = D2.length) (hin : ∀ j, j ∈ own → acc M j = acc M1 j) (hout : ∀ j, j ∉ own → acc M j = acc M2 j) : Rep M (restD D1 own D2) (restC c1 own c2) := by
  refine ⟨by rw [restC_length, restD_length, R2.1], fun i d e => ?_⟩
  have key : ∀ (own : List Nat), (restD D1 own D2)[i]? = some d → (i ∈ own → D1[i]? = some d) ∧ (i ∉ own → D2[i]? = some d) := by
    intro own
    induction own with
    | nil => exact fun e => ⟨fun h => by simp at h, fun _ => e⟩
    | cons v vs ih =>
      intro e
      rw [restD] at e
      cases e1 : D1[v]? with
      | none =>
        rw [e1] at e
        refine ⟨fun h => ?_, fun h => (ih e).2 fun z => h (List.mem_cons_of_mem _ z)⟩
        rcases List.mem_cons.mp h with h | h
        · subst h
          rw [List.getElem?_eq_none_iff] at e1
          have := lt_of_getD e
          rw [restD_length] at this
          omega
        · exact (ih e).1 h
      | some x =>
        rw [e1] at e
        by_cases ne : i = v
        · subst ne
          have := lt_of_getD e
          rw [List.length_set] at this
          simp only at e
          rw [setD_at this] at e
          exact ⟨fun _ => e1.trans e, fun h => absurd List.mem_cons_self h⟩
        · simp only at e
          rw [setD_off ne] at e
          exact ⟨fun h => (ih e).1 ((List.mem_cons.mp h).resolve_left ne), fun h => (ih e).2 fun z => h (List.mem_cons_of_mem _ z)⟩
  obtain ⟨k1, k2⟩ := key own e
  by_cases hi : i ∈ own
  · obtain ⟨x, e1, o⟩ := R1.2 i d (k1 hi)
    refine ⟨x, ?_, by rw [hin i hi]; exact o⟩
    rw [restC_in (by rw [R2.1, R1.1, hl]) hi]; exact e1
  · obtain ⟨x, e1, o⟩ := R2.2 i d (k2 hi)
    exact ⟨x, by rw [restC_out hi]; exact e1, by rw [hout i hi]; exact o⟩
/-! ### what holds at the head of a loop -/
def fixD (step : List Dc → Option (List (List Dc))) : Nat → List Dc → Option (List Dc)
  | 0, _ => none
  | n + 1, H => match step H with
    | none => none
    | some outs => if outs.all (fun o => leDs o H) then some H else fixD step n (outs.foldl joDs H)
def headD (step : List Dc → Option (List (List Dc))) (D : List Dc) : Option (List Dc) := match fixD step 6 D with
  | some H => if leDs D H then some H else none
  | none => none
theorem fixD_ok {step : List Dc → Option (List (List Dc))} {H' : List Dc} : ∀ {n : Nat} {H : List Dc}, fixD step n H = some H' → ∃ outs, step H' = some outs ∧ ∀ o ∈ outs, leDs o H' = true
  | 0, H, h => by cases h
  | n + 1, H, h => by
    rw [fixD] at h
    split at h
    · cases h
    · rename_i outs e
      split at h
      · rename_i ha
        cases h
        exact ⟨outs, e, fun o m => (List.all_eq_true.mp ha) o m⟩
      · exact fixD_ok h
theorem headD_ok {step : List Dc → Option (List (List Dc))} {D H : List Dc} (h : headD step D = some H) : leDs D H = true ∧ ∃ outs, step H = some outs ∧ ∀ o ∈ outs, leDs o H = true := by
  unfold headD at h
  split at h
  · rename_i H1 e
    split at h
    · rename_i hl
      cases h
      exact ⟨hl, fixD_ok e⟩
    · cases h
  · cases h
section
variable {S α β γ δ ω R : Type}
variable {V : S → Tab} {m ma mb mc : ME} {mt mn : MT} {ms : MA} {mi : MI} {g : MG} {ea : En α} {eb : En β} {eg : En γ} {ew : En ω} {fa : IX S α} {fb : IX S β} {aba abb : AE} {abt abn abi abg : AT} {abs : AA} {p pa pb : Bool} {i v : Nat} {own ws : List Nat}
/-! ### comprehensions -/
def lcStep (own : List Nat) (abg abt : AT) (abe : AE) : List Dc → Option (List (List Dc)) := fun H => match abg H with
  | some Da => match abt Da with
    | some Db => match abe Db with
      | some (Dd, k) => match frzD k Dd with
        | some De => some [wipeD Db own, wipeD De own]
        | none => none
      | none => none
    | none => none
  | none => none
def abLc (own : List Nat) (abi abg abt : AT) (abe : AE) : AE := fun D => match abi D with
  | some D1 => match headD (lcStep own abg abt abe) (wipeD D1 own) with
    | some H => some (restD D1 own H, .N)
    | none => none
  | none => none
/-- the cells off the wiped ones were frozen at most -/
def FrO (own : List Nat) (c c' : Cs) : Prop := c'.length = c.length ∧ ∀ (i : Nat), i ∉ own → ∀ (x : Cell), c[i]? = some x → c'[i]? = some x ∨ ∃ t, x = .ow t ∧ c'[i]? = some (.fz t)
theorem FrO.trans {a b c : Cs} (h : FrO own a b) (k : FrO own b c) : FrO own a c := ⟨k.1.trans h.1, fun i hi x e => by
  rcases h.2 i hi x e with e1 | ⟨t, rfl, e1⟩
  · exact k.2 i hi x e1
  · rcases k.2 i hi _ e1 with e2 | ⟨u, e2, _⟩
    · exact .inr ⟨t, rfl, e2⟩
    · cases e2⟩
theorem FrO.of {c c' : Cs} (h : Frz c c') : FrO own c c' := ⟨h.1, fun i _ x e => h.2 i x e⟩
theorem FrO.wipe {c : Cs} : FrO own c (wipeC c own) := ⟨wipeC_length c own, fun i hi x e => .inl (by rw [wipeC_out hi]; exact e)⟩
theorem FrO.off {c c' : Cs} (hl : c'.length = c.length) (h : ∀ j, j ∉ own → c'[j]? = c[j]?) : FrO own c c' := ⟨hl, fun i hi x e => .inl (by rw [h i hi]; exact e)⟩
theorem leDs_len {D D' : List Dc} (h : leDs D D' = true) : D'.length = D.length := (leDs_get h).1
theorem pl_lc {it : PX S (List α)} {set : α → S → S} {ft : PX S Bool} {fe : PX S β} (hi : PI V mi it ea abi) (hg : LG V g set ea abg ws) (ht : PT V mt ft abt) (he : PL V m fe eb aba) (hw : ∀ j ∈ ws, j ∈ own) :
    PL V (mLc own mi g mt m) (pLc it set ft fe) (eL eb) (abLc own abi abg abt aba) := by
  intro D D' k hk s c ys s' R hf
  obtain ⟨hf, rfl⟩ := pu_of hf
  unfold abLc at hk
  split at hk
  · rename_i D1 h1
    split at hk
    · rename_i H hh
      cases hk
      unfold pLc at hf
      obtain ⟨xs, f1, hf⟩ := Option.bind_eq_some_iff.mp hf
      split at hf
      · rename_i hlen
        obtain ⟨c1, e1, R1, P1⟩ := hi D _ h1 s' c xs s' R (by unfold pu; rw [f1]; rfl)
        obtain ⟨hle, outs, hs, ho⟩ := headD_ok hh
        have hl1 : D1.length = H.length := by rw [leDs_len hle, wipeD_length]
        unfold lcStep at hs
        split at hs
        · rename_i Da ha
          split at hs
          · rename_i Db hb
            split at hs
            · rename_i Dd kd hd
              split at hs
              · rename_i De hde
                cases hs
                have o1 := ho _ List.mem_cons_self
                have o2 := ho _ (List.mem_cons_of_mem _ List.mem_cons_self)
                have turn : ∀ (xs : List α) (ys : List β) (cw : Cs), Rep (V s') H cw → lcO (fun x => ft (set x s')) (fun x => fe (set x s')) xs = some ys → ∃ c2, mLcL own g mt m (xs.map ea) cw = some (ys.map eb, c2) ∧ Rep (V s') H c2 ∧ FrO own cw c2 := by
                  intro xs
                  induction xs with
                  | nil =>
                    intro ys cw Rw e
                    cases e
                    exact ⟨cw, rfl, Rw, rfl, fun i _ x e => .inl e⟩
                  | cons x xs ih =>
                    intro ys cw Rw e
                    rw [lcO] at e
                    obtain ⟨b, fb, e⟩ := Option.bind_eq_some_iff.mp e
                    obtain ⟨ca, ea1, Ra, fra⟩ := hg H Da ha s' cw x Rw
                    obtain ⟨cb, eb1, Rb, Pb⟩ := ht Da Db hb _ ca b _ Ra (by unfold pu; rw [fb]; rfl)
                    have fr1 : FrO own cw ca := .off (by rw [Ra.1, Rw.1]; have := (hg H Da ha s' cw x Rw); have l2 := hg H Da ha s' cw x Rw; obtain ⟨c9, e9, R9, _⟩ := l2; rw [ea1] at e9; cases e9; exact (by
                      have q1 := leDs_len o1
                      rw [wipeD_length] at q1
                      have q2 : Db.length = Da.length := by rw [← Rb.1, (Pb rfl).2.1, Ra.1]
                      omega)) fun j hj => (fra j fun z => hj (hw j z)).1
                    have fr2 : FrO own ca cb := .of (Pb rfl).2
                    have off : ∀ j, j ∉ own → acc (V s') j = acc (V (set x s')) j := fun j hj => ((fra j fun z => hj (hw j z)).2).symm
                    cases b with
                    | false =>
                      simp only [Bool.false_eq_true, if_false] at e
                      obtain ⟨c2, e2, R2, F2⟩ := ih ys _ ((Rb.wipe' off).le o1) e
                      exact ⟨c2, by rw [List.map_cons, mLcL]; simp only [ea1, eb1]; exact e2, R2, ((fr1.trans fr2).trans .wipe).trans F2⟩
                    | true =>
                      simp only [if_true] at e
                      obtain ⟨y, fy, e⟩ := Option.bind_eq_some_iff.mp e
                      obtain ⟨zs, fz, e⟩ := Option.map_eq_some_iff.mp e
                      cases e
                      obtain ⟨r, cd, ed1, Rd, Kd, Pd⟩ := he Db _ _ hd _ cb y _ Rb (by unfold pu; rw [fy]; rfl)
                      obtain ⟨ce, ee, Re, Fe⟩ := frz_ok Kd Rd hde
                      obtain ⟨c2, e2, R2, F2⟩ := ih zs _ ((Re.wipe' off).le o2) fz
                      exact ⟨c2, by rw [List.map_cons, mLcL]; simp only [ea1, eb1, ed1, ee, e2, List.map_cons], R2, ((((fr1.trans fr2).trans (.of (Pd rfl).2)).trans (.of Fe)).trans .wipe).trans F2⟩
                obtain ⟨c2, e2, R2, F2⟩ := turn xs ys _ ((R1.wipe own).le hle) hf
                refine ⟨.nw (.list (ys.map eb)), restC c1 own c2, ?_, R1.rest R2 hl1 own, rfl, fun _ => ⟨rfl, (P1 rfl).2.trans ⟨by rw [restC_length, R2.1, R1.1, hl1], fun i x e => ?_⟩⟩⟩
                · unfold mLc
                  rw [e1]
                  simp only [List.length_map, hlen, if_true, e2]
                · by_cases hi : i ∈ own
                  · rw [restC_in (by rw [R2.1, R1.1, hl1]) hi]; exact .inl e
                  · rw [restC_out hi]
                    exact (FrO.wipe.trans F2).2 i hi x e
              · cases hs
            · cases hs
          · cases hs
        · cases hs
      · cases hf
    · cases hk
  · cases hk
/-- the parts change the state -/
theorem le_lc {pi pt pe : Bool} {it : IX S (List α)} {set : α → S → S} {ft : IX S Bool} {fe : IX S β} {rst : S → S → S} (hi : LI V mi it ea abi pi) (hg : LG V g set ea abg ws) (ht : LT V mt ft abt pt) (he : LE V m fe eb aba pe) (hw : ∀ j ∈ ws, j ∈ own)
    (hr1 : ∀ s0 s j, j ∈ own → acc (V (rst s0 s)) j = acc (V s0) j) (hr2 : ∀ s0 s j, j ∉ own → acc (V (rst s0 s)) j = acc (V s) j) :
    LE V (mLc own mi g mt m) (iLc rst it set ft fe) (eL eb) (abLc own abi abg abt aba) false := by
  intro D D' k hk s c ys s' R hf
  unfold abLc at hk
  split at hk
  · rename_i D1 h1
    split at hk
    · rename_i H hh
      cases hk
      unfold iLc at hf
      obtain ⟨⟨xs, s1⟩, f1, hf⟩ := Option.bind_eq_some_iff.mp hf
      simp only at hf
      split at hf
      · rename_i hlen
        obtain ⟨⟨ys', s2⟩, f2, hf⟩ := Option.map_eq_some_iff.mp hf
        cases hf
        obtain ⟨c1, e1, R1, P1⟩ := hi D _ h1 s c xs s1 R f1
        obtain ⟨hle, outs, hs, ho⟩ := headD_ok hh
        have hl1 : D1.length = H.length := by rw [leDs_len hle, wipeD_length]
        unfold lcStep at hs
        split at hs
        · rename_i Da ha
          split at hs
          · rename_i Db hb
            split at hs
            · rename_i Dd kd hd
              split at hs
              · rename_i De hde
                cases hs
                have o1 := ho _ List.mem_cons_self
                have o2 := ho _ (List.mem_cons_of_mem _ List.mem_cons_self)
                have turn : ∀ (xs : List α) (ys : List β) (cw : Cs) (s sn : S), Rep (V s) H cw → lcI set ft fe xs s = some (ys, sn) → ∃ c2, mLcL own g mt m (xs.map ea) cw = some (ys.map eb, c2) ∧ Rep (V sn) H c2 := by
                  intro xs
                  induction xs with
                  | nil =>
                    intro ys cw s sn Rw e
                    cases e
                    exact ⟨cw, rfl, Rw⟩
                  | cons x xs ih =>
                    intro ys cw s sn Rw e
                    rw [lcI] at e
                    obtain ⟨⟨b, s3⟩, fb, e⟩ := Option.bind_eq_some_iff.mp e
                    obtain ⟨ca, ea1, Ra, fra⟩ := hg H Da ha s cw x Rw
                    obtain ⟨cb, eb1, Rb, Pb⟩ := ht Da Db hb _ ca b _ Ra fb
                    cases b with
                    | false =>
                      simp only [Bool.false_eq_true, if_false] at e
                      obtain ⟨c2, e2, R2⟩ := ih ys _ s3 sn ((Rb.wipe own).le o1) e
                      exact ⟨c2, by rw [List.map_cons, mLcL]; simp only [ea1, eb1]; exact e2, R2⟩
                    | true =>
                      simp only [if_true] at e
                      obtain ⟨⟨y, s4⟩, fy, e⟩ := Option.bind_eq_some_iff.mp e
                      obtain ⟨⟨zs, s5⟩, fz, e⟩ := Option.map_eq_some_iff.mp e
                      cases e
                      obtain ⟨r, cd, ed1, Rd, Kd, Pd⟩ := he Db _ _ hd _ cb y _ Rb fy
                      obtain ⟨ce, ee, Re, Fe⟩ := frz_ok Kd Rd hde
                      obtain ⟨c2, e2, R2⟩ := ih zs _ s4 s5 ((Re.wipe own).le o2) fz
                      exact ⟨c2, by rw [List.map_cons, mLcL]; simp only [ea1, eb1, ed1, ee, e2, List.map_cons], R2⟩
                obtain ⟨c2, e2, R2⟩ := turn xs ys' _ s1 s2 ((R1.wipe own).le hle) f2
                refine ⟨.nw (.list (ys'.map eb)), restC c1 own c2, ?_, R1.rest' R2 hl1 (fun j hj => hr1 _ _ j hj) (fun j hj => hr2 _ _ j hj), rfl, fun q => by cases q⟩
                unfold mLc
                rw [e1]
                simp only [List.length_map, hlen, if_true, e2]
              · cases hs
            · cases hs
          · cases hs
        · cases hs
      · cases hf
    · cases hk
  · cases hk
def pYes : PX S Bool := fun _ => some true
theorem pt_yes : PT V mtYes pYes some := by
  intro D D' hk s c b s' R hf
  obtain ⟨h1, rfl⟩ := pu_of hf
  cases h1; cases hk
  exact ⟨c, rfl, R, fun _ => ⟨rfl, .refl⟩⟩
end
end TY
namespace TY
open PySem PySem.Spec L2 TL
/-! ### statements -/
inductive Fw (R : Type) where
  | nx | bk | ct
  | rt (r : R)
abbrev SX (S R : Type) := S → Option (Fw R × S)
abbrev OD := Option (List Dc)
structure SD where
  nx : OD
  bk : OD
  ct : OD
  rt : Option (Kd × List Dc)
def RO (M : Tab) (o : OD) (c : Cs) : Prop := ∃ D, o = some D ∧ Rep M D c
def joO : OD → OD → Option OD
  | none, b => some b
  | some a, none => some (some a)
  | some a, some b => match joC a b with
    | some j => some (some j)
    | none => none
def joR : Option (Kd × List Dc) → Option (Kd × List Dc) → Option (Option (Kd × List Dc))
  | none, b => some b
  | some a, none => some (some a)
  | some a, some b => match joC a.2 b.2 with
    | some j => if a.1 = b.1 then some (some (a.1, j)) else if a.1.val && b.1.val then some (some (.W, j)) else none
    | none => none
theorem joO_of {a b j : OD} (h : joO a b = some j) {M : Tab} {c : Cs} : (RO M a c → RO M j c) ∧ (RO M b c → RO M j c) := by
  cases a with
  | none => cases h; exact ⟨fun ⟨D, e, _⟩ => (nomatch e), id⟩
  | some a =>
    cases b with
    | none => cases h; exact ⟨id, fun ⟨D, e, _⟩ => (nomatch e)⟩
    | some b =>
      simp only [joO] at h
      split at h
      · rename_i J hj
        cases h
        obtain ⟨j1, j2⟩ := joC_of hj
        exact ⟨fun ⟨D, e, R⟩ => by cases e; exact ⟨J, rfl, R.le j1⟩, fun ⟨D, e, R⟩ => by cases e; exact ⟨J, rfl, R.le j2⟩⟩
      · cases h
section
variable {S α β γ δ ω R : Type}
/-- what a return hands out -/
def RtO (M : Tab) (rt : Option (Kd × List Dc)) (t : T) (o : Out) (c : Cs) : Prop := ∃ k D, rt = some (k, D) ∧ OkO k t o ∧ Rep M D c
theorem OkO.W {k : Kd} {t : T} {o : Out} (h : OkO k t o) : OkO .W t o := by
  cases k with
  | F => exact .inl h
  | N => exact .inr h
  | W => exact h
  | S i => exact h.elim
  | V i => exact h.elim
  | U => exact h.elim
theorem joR_of {a b j : Option (Kd × List Dc)} (h : joR a b = some j) {M : Tab} {t : T} {o : Out} {c : Cs} : (RtO M a t o c → RtO M j t o c) ∧ (RtO M b t o c → RtO M j t o c) := by
  cases a with
  | none => cases h; exact ⟨fun ⟨k, D, e, _⟩ => (nomatch e), id⟩
  | some a =>
    cases b with
    | none => cases h; exact ⟨id, fun ⟨k, D, e, _⟩ => (nomatch e)⟩
    | some b =>
      simp only [joR] at h
      split at h
      · rename_i J hj
        obtain ⟨j1, j2⟩ := joC_of hj
        split at h
        · rename_i hk
          cases h
          exact ⟨fun ⟨k, D, e, ok, R⟩ => by cases e; exact ⟨_, J, rfl, ok, R.le j1⟩, fun ⟨k, D, e, ok, R⟩ => by cases e; exact ⟨_, J, rfl, by rw [hk]; exact ok, R.le j2⟩⟩
        · split at h
          · cases h
            exact ⟨fun ⟨k, D, e, ok, R⟩ => by cases e; exact ⟨_, J, rfl, ok.W, R.le j1⟩, fun ⟨k, D, e, ok, R⟩ => by cases e; exact ⟨_, J, rfl, ok.W, R.le j2⟩⟩
          · cases h
      · cases h
def EndOk (V : S → Tab) (er : En R) (sd : SD) (fl : Fw R) (s : S) (fl' : Fl) (c : Cs) : Prop := match fl with
  | .nx => fl' = .nx ∧ RO (V s) sd.nx c
  | .bk => fl' = .bk ∧ RO (V s) sd.bk c
  | .ct => fl' = .ct ∧ RO (V s) sd.ct c
  | .rt r => ∃ o, fl' = .rt o ∧ RtO (V s) sd.rt (er r) o c
abbrev AS := List Dc → Option SD
def LS (V : S → Tab) (m : MS) (f : SX S R) (er : En R) (ab : AS) : Prop := ∀ D sd, ab D = some sd → ∀ s c fl s', Rep (V s) D c → f s = some (fl, s') → ∃ fl' c', m c = some (fl', c') ∧ EndOk V er sd fl s' fl' c'
def joS (a b : SD) : Option SD := match joO a.nx b.nx, joO a.bk b.bk, joO a.ct b.ct, joR a.rt b.rt with
  | some x, some y, some z, some w => some ⟨x, y, z, w⟩
  | _, _, _, _ => none
theorem joS_of {a b j : SD} (h : joS a b = some j) : joO a.nx b.nx = some j.nx ∧ joO a.bk b.bk = some j.bk ∧ joO a.ct b.ct = some j.ct ∧ joR a.rt b.rt = some j.rt := by
  unfold joS at h
  split at h
  · rename_i x y z w h1 h2 h3 h4
    cases h
    exact ⟨h1, h2, h3, h4⟩
  · cases h
theorem EndOk.jo {V : S → Tab} {er : En R} {a b j : SD} (h : joS a b = some j) {fl : Fw R} {s : S} {fl' : Fl} {c : Cs} : (EndOk V er a fl s fl' c → EndOk V er j fl s fl' c) ∧ (EndOk V er b fl s fl' c → EndOk V er j fl s fl' c) := by
  obtain ⟨h1, h2, h3, h4⟩ := joS_of h
  cases fl with
  | nx => exact ⟨fun k => ⟨k.1, (joO_of h1).1 k.2⟩, fun k => ⟨k.1, (joO_of h1).2 k.2⟩⟩
  | bk => exact ⟨fun k => ⟨k.1, (joO_of h2).1 k.2⟩, fun k => ⟨k.1, (joO_of h2).2 k.2⟩⟩
  | ct => exact ⟨fun k => ⟨k.1, (joO_of h3).1 k.2⟩, fun k => ⟨k.1, (joO_of h3).2 k.2⟩⟩
  | rt r => exact ⟨fun ⟨o, e, k⟩ => ⟨o, e, (joR_of h4).1 k⟩, fun ⟨o, e, k⟩ => ⟨o, e, (joR_of h4).2 k⟩⟩
/-! the typed statements -/
def tNil : SX S R := fun s => some (.nx, s)
def tBreak : SX S R := fun s => some (.bk, s)
def tCont : SX S R := fun s => some (.ct, s)
def tSeq (a b : SX S R) : SX S R := fun s => (a s).bind fun p => match p.1 with
  | .nx => b p.2
  | fl => some (fl, p.2)
def tIf (c : IX S Bool) (a b : SX S R) : SX S R := fun s => (c s).bind fun p => if p.1 then a p.2 else b p.2
def tSet (set : α → S → S) (f : IX S α) : SX S R := fun s => (f s).map fun p => (.nx, set p.1 p.2)
def tDrop (f : IX S α) : SX S R := fun s => (f s).map fun p => (.nx, p.2)
def tRet (f : IX S R) : SX S R := fun s => (f s).map fun p => (.rt p.1, p.2)
def forT (set : α → S → S) (b : SX S R) : List α → SX S R
  | [], s => some (.nx, s)
  | x :: xs, s => (b (set x s)).bind fun p => match p.1 with
    | .nx => forT set b xs p.2
    | .ct => forT set b xs p.2
    | .bk => some (.nx, p.2)
    | .rt r => some (.rt r, p.2)
def tFor (it : IX S (List α)) (set : α → S → S) (b : SX S R) : SX S R := fun s => (it s).bind fun p => forT set b p.1 p.2
def tWhile : Nat → IX S Bool → SX S R → SX S R
  | 0, _, _, _ => none
  | n + 1, c, b, s => (c s).bind fun p => if p.1 then (b p.2).bind fun q => match q.1 with
      | .nx => tWhile n c b q.2
      | .ct => tWhile n c b q.2
      | .bk => some (.nx, q.2)
      | .rt r => some (.rt r, q.2)
    else some (.nx, p.2)
def tAug (get : S → α) (set : γ → S → S) (F : α → β → Option γ) (f : IX S β) : SX S R := fun s => (f s).bind fun p => (F (get s) p.1).map fun z => (.nx, set z p.2)
def tPut (get : S → ω) (set : ω → S → S) (P : ω → α → β → Option ω) (fk : IX S α) (fv : IX S β) : SX S R := fun s => (fv s).bind fun v => (fk v.2).bind fun k => (P (get k.2) k.1 v.1).map fun w => (.nx, set w k.2)
def tAugIx (get : S → ω) (set : ω → S → S) (G : ω → α → Option γ) (F : γ → β → Option δ) (P : ω → α → δ → Option ω) (fk : IX S α) (f : IX S β) : SX S R := fun s => (fk s).bind fun k => (G (get k.2) k.1).bind fun a => (f k.2).bind fun b => (F a b.1).bind fun z => (P (get b.2) k.1 z).map fun w => (.nx, set w b.2)
def tPar (set : α → S → S) (set' : β → S → S) (fa : IX S α) (fb : IX S β) : SX S R := fun s => (fa s).bind fun a => (fb a.2).map fun b => (.nx, set' b.1 (set a.1 b.2))
def tPar3 (set : α → S → S) (set' : β → S → S) (set'' : γ → S → S) (fa : IX S α) (fb : IX S β) (fc : IX S γ) : SX S R := fun s => (fa s).bind fun a => (fb a.2).bind fun b => (fc b.2).map fun c => (.nx, set'' c.1 (set' b.1 (set a.1 c.2)))
variable {V : S → Tab} {m ma mb mc : ME} {mt mn : MT} {ms : MA} {mi : MI} {g : MG} {er : En R} {ea : En α} {eb : En β} {eg : En γ} {ed : En δ} {ew : En ω} {fa : IX S α} {fb : IX S β} {aba abb abc : AE} {abt abn abi abg : AT} {abs : AA} {p pa pb pc : Bool} {i j l v v' v'' : Nat} {own ws : List Nat} {sa sb : MS} {ta tb : SX S R} {xa xb : AS}
theorem ls_nil : LS V sNil (tNil : SX S R) er fun D => some ⟨some D, none, none, none⟩ := by
  intro D sd hk s c fl s' Rp hf
  cases hk; cases hf
  exact ⟨.nx, c, rfl, rfl, D, rfl, Rp⟩
theorem ls_break : LS V sBreak (tBreak : SX S R) er fun D => some ⟨none, some D, none, none⟩ := by
  intro D sd hk s c fl s' Rp hf
  cases hk; cases hf
  exact ⟨.bk, c, rfl, rfl, D, rfl, Rp⟩
theorem ls_cont : LS V sCont (tCont : SX S R) er fun D => some ⟨none, none, some D, none⟩ := by
  intro D sd hk s c fl s' Rp hf
  cases hk; cases hf
  exact ⟨.ct, c, rfl, rfl, D, rfl, Rp⟩
def xSeq (a b : AS) : AS := fun D => match a D with
  | some sd => match sd.nx with
    | none => some sd
    | some D1 => match b D1 with
      | some se => match joO sd.bk se.bk, joO sd.ct se.ct, joR sd.rt se.rt with
        | some y, some z, some w => some ⟨se.nx, y, z, w⟩
        | _, _, _ => none
      | none => none
  | none => none
theorem ls_seq (ha : LS V sa ta er xa) (hb : LS V sb tb er xb) : LS V (sSeq sa sb) (tSeq ta tb) er (xSeq xa xb) := by
  intro D sd hk s c fl s' Rp hf
  unfold xSeq at hk
  split at hk
  · rename_i sd1 h1
    unfold tSeq at hf
    obtain ⟨⟨fl1, s1⟩, f1, hf⟩ := Option.bind_eq_some_iff.mp hf
    obtain ⟨fl1', c1, e1, k1⟩ := ha D _ h1 s c fl1 s1 Rp f1
    have out : ∀ sd' : SD, joO sd1.bk sd'.bk = some sd.bk → joO sd1.ct sd'.ct = some sd.ct → joR sd1.rt sd'.rt = some sd.rt → fl1 ≠ .nx → some (fl1, s1) = some (fl, s') → ∃ fl' c', sSeq sa sb c = some (fl', c') ∧ EndOk V er sd fl s' fl' c' := by
      intro sd' q1 q2 q3 ne e
      have e' : fl1 = fl ∧ s1 = s' := by cases e; exact ⟨rfl, rfl⟩
      obtain ⟨rfl, rfl⟩ := e'
      clear e hf f1
      cases fl1 with
      | nx => exact absurd rfl ne
      | bk => obtain ⟨rfl, k⟩ := k1; exact ⟨.bk, c1, by unfold sSeq; rw [e1], rfl, (joO_of q1).1 k⟩
      | ct => obtain ⟨rfl, k⟩ := k1; exact ⟨.ct, c1, by unfold sSeq; rw [e1], rfl, (joO_of q2).1 k⟩
      | rt r => obtain ⟨o, rfl, k⟩ := k1; exact ⟨.rt o, c1, by unfold sSeq; rw [e1], o, rfl, (joR_of q3).1 k⟩
    have jn : ∀ o : OD, joO o none = some o := fun o => by cases o <;> rfl
    have jr : ∀ o : Option (Kd × List Dc), joR o none = some o := fun o => by cases o <;> rfl
    split at hk
    · rename_i hn
      cases hk
      cases fl1 with
      | nx => obtain ⟨_, D', e, _⟩ := k1; rw [hn] at e; cases e
      | bk => exact out ⟨none, none, none, none⟩ (jn _) (jn _) (jr _) (by simp) hf
      | ct => exact out ⟨none, none, none, none⟩ (jn _) (jn _) (jr _) (by simp) hf
      | rt r => exact out ⟨none, none, none, none⟩ (jn _) (jn _) (jr _) (by simp) hf
    · rename_i D1 hn
      split at hk
      · rename_i se h2
        split at hk
        · rename_i y z w j1 j2 j3
          cases hk
          cases fl1 with
          | nx =>
            obtain ⟨rfl, D', e, R1⟩ := k1
            rw [hn] at e; cases e
            obtain ⟨fl2, c2, e2, k2⟩ := hb _ _ h2 s1 c1 fl s' R1 hf
            refine ⟨fl2, c2, by unfold sSeq; rw [e1]; exact e2, ?_⟩
            cases fl with
            | nx => exact k2
            | bk => exact ⟨k2.1, (joO_of j1).2 k2.2⟩
            | ct => exact ⟨k2.1, (joO_of j2).2 k2.2⟩
            | rt r => obtain ⟨o, e, k⟩ := k2; exact ⟨o, e, (joR_of j3).2 k⟩
          | bk => exact out se j1 j2 j3 (by simp) hf
          | ct => exact out se j1 j2 j3 (by simp) hf
          | rt r => exact out se j1 j2 j3 (by simp) hf
        · cases hk
      · cases hk
  · cases hk
def xIf (t : AT) (a b : AS) : AS := fun D => match t D with
  | some D1 => match a D1, b D1 with
    | some x, some y => joS x y
    | _, _ => none
  | none => none
theorem ls_if {f : IX S Bool} (ht : LT V mt f abt p) (ha : LS V sa ta er xa) (hb : LS V sb tb er xb) : LS V (sIf mt sa sb) (tIf f ta tb) er (xIf abt xa xb) := by
  intro D sd hk s c fl s' Rp hf
  unfold xIf at hk
  split at hk
  · rename_i D1 h1
    split at hk
    · rename_i x y h2 h3
      unfold tIf at hf
      obtain ⟨⟨b, s1⟩, f1, hf⟩ := Option.bind_eq_some_iff.mp hf
      obtain ⟨c1, e1, R1, P1⟩ := ht D _ h1 s c b s1 Rp f1
      cases b with
      | true =>
        obtain ⟨fl2, c2, e2, k2⟩ := ha _ _ h2 s1 c1 fl s' R1 hf
        exact ⟨fl2, c2, by unfold sIf; rw [e1]; exact e2, (EndOk.jo hk).1 k2⟩
      | false =>
        obtain ⟨fl2, c2, e2, k2⟩ := hb _ _ h3 s1 c1 fl s' R1 hf
        exact ⟨fl2, c2, by unfold sIf; rw [e1]; exact e2, (EndOk.jo hk).2 k2⟩
    · cases hk
  · cases hk
def nxD (D : List Dc) : SD := ⟨some D, none, none, none⟩
def xSet (i v : Nat) (a : AE) : AS := fun D => match a D with
  | some (D1, k) => match storeD k i v D1 with
    | some D2 => some (nxD D2)
    | none => none
  | none => none
theorem ls_set {set : α → S → S} (hs : SetS V i v ea set) (h : LE V m fa ea aba p) : LS V (sSet i m) (tSet set fa : SX S R) er (xSet i v aba) := by
  intro D sd hk s c fl s' Rp hf
  unfold xSet at hk
  split at hk
  · rename_i D1 k1 h1
    split at hk
    · rename_i D2 h2
      cases hk
      unfold tSet at hf
      obtain ⟨⟨x, s1⟩, f1, hf⟩ := Option.map_eq_some_iff.mp hf
      cases hf
      obtain ⟨r, c1, e1, R1, K1, P1⟩ := h D _ _ h1 s c x s1 Rp f1
      obtain ⟨c2, e2, R2⟩ := store_ok K1 R1 h2 (hs x s1)
      exact ⟨.nx, c2, by unfold sSet; rw [e1]; simp only [e2], rfl, D2, rfl, R2⟩
    · cases hk
  · cases hk
def xDrop (a : AE) : AS := fun D => match a D with
  | some (D1, _) => some (nxD D1)
  | none => none
theorem ls_drop (h : LE V m fa ea aba p) : LS V (sExpr m) (tDrop fa : SX S R) er (xDrop aba) := by
  intro D sd hk s c fl s' Rp hf
  unfold xDrop at hk
  split at hk
  · rename_i D1 k1 h1
    cases hk
    unfold tDrop at hf
    obtain ⟨⟨x, s1⟩, f1, hf⟩ := Option.map_eq_some_iff.mp hf
    cases hf
    obtain ⟨r, c1, e1, R1, K1, P1⟩ := h D _ _ h1 s c x s1 Rp f1
    exact ⟨.nx, c1, by unfold sExpr; rw [e1], rfl, D1, rfl, R1⟩
  · cases hk
/-- what is known of a value that is handed out -/
def outD (k : Kd) (D : List Dc) : Option Kd := match k with
  | .F => some .F
  | .N => some .N
  | .W => some .W
  | .V _ => some .W
  | .U => some .W
  | .S i => match D[i]? with
    | some (.O _) => some .N
    | _ => none
theorem out_ok {k k' : Kd} {t : T} {r : Rs} {c : Cs} {M : Tab} {D : List Dc} (h : KdOk k t r c) (Rp : Rep M D c) (e : outD k D = some k') : ∃ o, outOf r c = some o ∧ OkO k' t o := by
  cases k with
  | F => cases e; cases h; exact ⟨.fz t, rfl, rfl⟩
  | N => cases e; cases h; exact ⟨.nw t, rfl, rfl⟩
  | W => cases e; rcases h with rfl | rfl; exact ⟨.fz t, rfl, .inl rfl⟩; exact ⟨.nw t, rfl, .inr rfl⟩
  | V i =>
    cases e
    rcases h with ⟨rfl, _⟩ | ⟨rfl, h⟩
    · exact ⟨.fz t, rfl, .inl rfl⟩
    · exact ⟨.nw t, by simp only [outOf, h], .inr rfl⟩
  | U =>
    cases e
    rcases h with rfl | rfl | ⟨i, rfl, h⟩
    · exact ⟨.fz t, rfl, .inl rfl⟩
    · exact ⟨.nw t, rfl, .inr rfl⟩
    · exact ⟨.nw t, by simp only [outOf, h], .inr rfl⟩
  | S i =>
    simp only [outD] at e
    split at e
    · rename_i w hd
      cases e
      obtain ⟨rfl, h⟩ := h
      obtain ⟨x, e1, o⟩ := Rp.at hd
      cases o
      rcases h with h | h
      · exact ⟨.nw t, by simp only [outOf, h], rfl⟩
      · rw [h] at e1; cases e1
    · cases e
def xRet (a : AE) : AS := fun D => match a D with
  | some (D1, k) => match outD k D1 with
    | some k' => some ⟨none, none, none, some (k', D1)⟩
    | none => none
  | none => none
theorem ls_ret {f : IX S R} (h : LE V m f er aba p) : LS V (sRet m) (tRet f) er (xRet aba) := by
  intro D sd hk s c fl s' Rp hf
  unfold xRet at hk
  split at hk
  · rename_i D1 k1 h1
    split at hk
    · rename_i k' h2
      cases hk
      unfold tRet at hf
      obtain ⟨⟨x, s1⟩, f1, hf⟩ := Option.map_eq_some_iff.mp hf
      cases hf
      obtain ⟨r, c1, e1, R1, K1, P1⟩ := h D _ _ h1 s c x s1 Rp f1
      obtain ⟨o, e2, ok⟩ := out_ok K1 R1 h2
      exact ⟨.rt o, c1, by unfold sRet; rw [e1]; simp only [e2], o, rfl, k', D1, rfl, ok, R1⟩
    · cases hk
  · cases hk
theorem ls_retN {r : R} (h : er r = .none) : LS V sRetN (tRet (pu (pC r))) er fun D => some ⟨none, none, none, some (.F, D)⟩ := by
  intro D sd hk s c fl s' Rp hf
  cases hk
  cases hf
  exact ⟨.rt (.fz .none), c, rfl, _, rfl, .F, D, rfl, by show _ = _; rw [h], Rp⟩
/-! loops -/
def olD : OD → List (List Dc)
  | some D => [D]
  | none => []
def forStep (abg : AT) (x : AS) : List Dc → Option (List (List Dc)) := fun H => match abg H with
  | some Da => match x Da with
    | some sd => some (olD sd.nx ++ olD sd.ct)
    | none => none
  | none => none
def xFor (abi abg : AT) (x : AS) : AS := fun D => match abi D with
  | some D1 => match headD (forStep abg x) D1 with
    | some H => match abg H with
      | some Da => match x Da with
        | some sd => match joO (some H) sd.bk with
          | some J => some ⟨J, none, none, sd.rt⟩
          | none => none
        | none => none
      | none => none
    | none => none
  | none => none
theorem RO.le {M : Tab} {o : OD} {c : Cs} {H : List Dc} (h : RO M o c) (k : ∀ d, d ∈ olD o → leDs d H = true) : Rep M H c := by
  obtain ⟨D, rfl, Rp⟩ := h
  exact Rp.le (k D (List.mem_singleton.mpr rfl))
theorem ls_for {it : IX S (List α)} {set : α → S → S} (hi : LI V mi it ea abi p) (hg : LG V g set ea abg ws) (hb : LS V sa ta er xa) : LS V (sFor mi g sa) (tFor it set ta) er (xFor abi abg xa) := by
  intro D sd hk s c fl s' Rp hf
  unfold xFor at hk
  split at hk
  · rename_i D1 h1
    split at hk
    · rename_i H hh
      obtain ⟨hle, outs, hs, ho⟩ := headD_ok hh
      split at hk
      · rename_i Da hda
        split at hk
        · rename_i sb hsb
          split at hk
          · rename_i J hj
            cases hk
            unfold forStep at hs
            rw [hda] at hs
            simp only [hsb] at hs
            cases hs
            unfold tFor at hf
            obtain ⟨⟨xs, s1⟩, f1, hf⟩ := Option.bind_eq_some_iff.mp hf
            obtain ⟨c1, e1, R1, P1⟩ := hi D _ h1 s c xs s1 Rp f1
            have turn : ∀ (xs : List α) (s : S) (c : Cs), Rep (V s) H c → forT set ta xs s = some (fl, s') → ∃ fl' c', sForL g sa (xs.map ea) c = some (fl', c') ∧ EndOk V er ⟨J, none, none, sb.rt⟩ fl s' fl' c' := by
              intro xs
              induction xs with
              | nil =>
                intro s c Rw e
                cases e
                exact ⟨.nx, c, rfl, rfl, (joO_of hj).1 ⟨H, rfl, Rw⟩⟩
              | cons x xs ih =>
                intro s c Rw e
                rw [forT] at e
                obtain ⟨⟨fl1, s2⟩, f2, e⟩ := Option.bind_eq_some_iff.mp e
                obtain ⟨ca, ea1, Ra, _⟩ := hg H Da hda s c x Rw
                obtain ⟨fl1', cb, eb1, kb⟩ := hb Da _ hsb _ ca fl1 s2 Ra f2
                rw [List.map_cons]
                cases fl1 with
                | nx =>
                  obtain ⟨rfl, k⟩ := kb
                  obtain ⟨fl', c', e', k'⟩ := ih s2 cb (k.le fun d m => ho d (List.mem_append_left _ m)) e
                  exact ⟨fl', c', by simp only [sForL, ea1, eb1]; exact e', k'⟩
                | ct =>
                  obtain ⟨rfl, k⟩ := kb
                  obtain ⟨fl', c', e', k'⟩ := ih s2 cb (k.le fun d m => ho d (List.mem_append_right _ m)) e
                  exact ⟨fl', c', by simp only [sForL, ea1, eb1]; exact e', k'⟩
                | bk =>
                  obtain ⟨rfl, k⟩ := kb
                  cases e
                  exact ⟨.nx, cb, by simp only [sForL, ea1, eb1], rfl, (joO_of hj).2 k⟩
                | rt r =>
                  obtain ⟨o, rfl, k⟩ := kb
                  cases e
                  exact ⟨.rt o, cb, by simp only [sForL, ea1, eb1], o, rfl, k⟩
            obtain ⟨fl', c', e2, k2⟩ := turn xs s1 c1 (R1.le hle) hf
            exact ⟨fl', c', by unfold sFor; rw [e1]; exact e2, k2⟩
          · cases hk
        · cases hk
      · cases hk
    · cases hk
  · cases hk
def whStep (abt : AT) (x : AS) : List Dc → Option (List (List Dc)) := fun H => match abt H with
  | some Da => match x Da with
    | some sd => some (olD sd.nx ++ olD sd.ct)
    | none => none
  | none => none
def xWhile (abt : AT) (x : AS) : AS := fun D => match headD (whStep abt x) D with
  | some H => match abt H with
    | some Da => match x Da with
      | some sd => match joO (some Da) sd.bk with
        | some J => some ⟨J, none, none, sd.rt⟩
        | none => none
      | none => none
    | none => none
  | none => none
theorem ls_while {n : Nat} {f : IX S Bool} (ht : LT V mt f abt p) (hb : LS V sa ta er xa) : LS V (sWhile n mt sa) (tWhile n f ta) er (xWhile abt xa) := by
  intro D sd hk s c fl s' Rp hf
  unfold xWhile at hk
  split at hk
  · rename_i H hh
    obtain ⟨hle, outs, hs, ho⟩ := headD_ok hh
    split at hk
    · rename_i Da hda
      split at hk
      · rename_i sb hsb
        split at hk
        · rename_i J hj
          cases hk
          unfold whStep at hs
          rw [hda] at hs
          simp only [hsb] at hs
          cases hs
          have turn : ∀ (n : Nat) (s : S) (c : Cs), Rep (V s) H c → tWhile n f ta s = some (fl, s') → ∃ fl' c', sWhile n mt sa c = some (fl', c') ∧ EndOk V er ⟨J, none, none, sb.rt⟩ fl s' fl' c' := by
            intro n
            induction n with
            | zero => intro s c Rw e; cases e
            | succ n ih =>
              intro s c Rw e
              rw [tWhile] at e
              obtain ⟨⟨b, s1⟩, f1, e⟩ := Option.bind_eq_some_iff.mp e
              obtain ⟨ca, ea1, Ra, _⟩ := ht H Da hda s c b s1 Rw f1
              cases b with
              | false =>
                simp only [Bool.false_eq_true, if_false] at e
                cases e
                exact ⟨.nx, ca, by simp only [sWhile, ea1], rfl, (joO_of hj).1 ⟨Da, rfl, Ra⟩⟩
              | true =>
                simp only [if_true] at e
                obtain ⟨⟨fl1, s2⟩, f2, e⟩ := Option.bind_eq_some_iff.mp e
                obtain ⟨fl1', cb, eb1, kb⟩ := hb Da _ hsb _ ca fl1 s2 Ra f2
                cases fl1 with
                | nx =>
                  obtain ⟨rfl, k⟩ := kb
                  obtain ⟨fl', c', e', k'⟩ := ih s2 cb (k.le fun d m => ho d (List.mem_append_left _ m)) e
                  exact ⟨fl', c', by simp only [sWhile, ea1, eb1]; exact e', k'⟩
                | ct =>
                  obtain ⟨rfl, k⟩ := kb
                  obtain ⟨fl', c', e', k'⟩ := ih s2 cb (k.le fun d m => ho d (List.mem_append_right _ m)) e
                  exact ⟨fl', c', by simp only [sWhile, ea1, eb1]; exact e', k'⟩
                | bk =>
                  obtain ⟨rfl, k⟩ := kb
                  cases e
                  exact ⟨.nx, cb, by simp only [sWhile, ea1, eb1], rfl, (joO_of hj).2 k⟩
                | rt r =>
                  obtain ⟨o, rfl, k⟩ := kb
                  cases e
                  exact ⟨.rt o, cb, by simp only [sWhile, ea1, eb1], o, rfl, k⟩
          exact turn n s c (Rp.le hle) hf
        · cases hk
      · cases hk
    · cases hk
  · cases hk
/-! x op= e -/
def xAug (i v v' : Nat) (o : Bool) (a : AE) : AS := fun D => match D[i]? with
  | some (.F w) => if w = v then match a D with
      | some (D1, _) => match storeD (ko o) i v' D1 with
        | some D2 => some (nxD D2)
        | none => none
      | none => none
    else none
  | _ => none
theorem ls_aug {Fm : T → T → Option Out} {F : α → β → Option γ} {o : Bool} {get : S → α} {set : γ → S → S} (hF : ∀ x y z, F x y = some z → Fm (ea x) (eb y) = some (mo o (eg z))) (hg : ∀ s, acc (V s) i v = ea (get s)) (hs : SetS V i v' eg set) (h : LE V m fb eb abb p) :
    LS V (sAug i Fm m) (tAug get set F fb : SX S R) er (xAug i v v' o abb) := by
  intro D sd hk s c fl s' Rp hf
  unfold xAug at hk
  split at hk
  · rename_i w hd
    split at hk
    · rename_i hw; subst hw
      split at hk
      · rename_i D1 k1 h1
        split at hk
        · rename_i D2 h2
          cases hk
          unfold tAug at hf
          obtain ⟨⟨y, s1⟩, f1, hf⟩ := Option.bind_eq_some_iff.mp hf
          obtain ⟨z, f2, hf⟩ := Option.map_eq_some_iff.mp hf
          cases hf
          obtain ⟨x, e0, ox⟩ := Rp.at hd
          cases ox
          rw [hg] at e0
          obtain ⟨r, c1, e1, R1, K1, P1⟩ := h D _ _ h1 s c y s1 Rp f1
          obtain ⟨c2, e2, R2⟩ := store_ok (k := ko o) (t := eg z) (r := (mo o (eg z)).rs) mo_ok R1 h2 (hs z s1)
          exact ⟨.nx, c2, by unfold sAug; rw [e0]; simp only [e1, K1.pk, hF _ _ _ f2, e2], rfl, D2, rfl, R2⟩
        · cases hk
      · cases hk
    · cases hk
  · cases hk
/-! x[k] = v, x[k] op= v -/
theorem owOf_lent {M : Tab} {D : List Dc} {c : Cs} (Rp : Rep M D c) (h : lentD D i v = true) : owOf c i = some (acc M i v) := by
  rcases lent_at Rp h with ⟨_, e⟩ | ⟨_, e⟩ <;> simp only [owOf, e]
theorem reC_lent {M M' : Tab} {D : List Dc} {c : Cs} {t : T} (Rp : Rep M D c) (h : lentD D i v = true) (u : Upd M M' i v t) : Rep M' D (reC c i t) := by
  rcases lent_at Rp h with ⟨hd, e⟩ | ⟨hd, e⟩
  · have : reC c i t = c.set i (.ow t) := by simp only [reC, e]
    rw [this]; exact rep_ow Rp u hd
  · have : reC c i t = c.set i (.bo t) := by simp only [reC, e]
    rw [this]; exact rep_bo Rp u hd
def xPut (i v : Nat) (ak av : AE) : AS := fun D => match abFz av D with
  | some (D1, _) => if lentD D1 i v then match ak D1 with
      | some (D2, _) => if lentD D2 i v then some (nxD D2) else none
      | none => none
    else none
  | none => none
theorem ls_put {Pm : T → T → T → Option T} {P : ω → α → β → Option ω} {get : S → ω} {set : ω → S → S} (hP : ∀ w k x w', P w k x = some w' → Pm (ew w) (ea k) (eb x) = some (ew w')) (hg : ∀ s, acc (V s) i v = ew (get s)) (hs : SetS V i v ew set)
    (hk' : LE V ma fa ea aba pa) (hv : LE V mb fb eb abb pb) : LS V (sPut i Pm ma mb) (tPut get set P fa fb : SX S R) er (xPut i v aba abb) := by
  intro D sd hk s c fl s' Rp hf
  unfold xPut at hk
  split at hk
  · rename_i D1 k1 h1
    split at hk
    · rename_i l1
      split at hk
      · rename_i D2 k2 h2
        split at hk
        · rename_i l2
          cases hk
          unfold tPut at hf
          obtain ⟨⟨y, s1⟩, f1, hf⟩ := Option.bind_eq_some_iff.mp hf
          obtain ⟨⟨k, s2⟩, f2, hf⟩ := Option.bind_eq_some_iff.mp hf
          obtain ⟨w', f3, hf⟩ := Option.map_eq_some_iff.mp hf
          cases hf
          obtain ⟨r, c1, e1, R1, K1, P1⟩ := le_Fz hv D _ _ h1 s c y s1 Rp f1
          have kF : k1 = .F := by
            unfold abFz at h1
            split at h1
            · split at h1
              · cases h1; rfl
              · cases h1
            · cases h1
          subst kF
          cases K1
          obtain ⟨rk, c2, e2, R2, K2, P2⟩ := hk' D1 _ _ h2 s1 c1 k s2 R1 f2
          have o2 := owOf_lent R2 l2
          rw [hg] at o2
          exact ⟨.nx, reC c2 i (ew w'), by unfold sPut; rw [e1]; simp only [owOf_lent R1 l1, e2, K2.pk, o2, hP _ _ _ _ f3], rfl, D2, rfl, reC_lent R2 l2 (hs _ _)⟩
        · cases hk
      · cases hk
    · cases hk
  · cases hk
def xAugIx (i v : Nat) (ak a : AE) : AS := fun D => if lentD D i v then match abFz ak D with
    | some (D1, _) => if lentD D1 i v then match a D1 with
        | some (D2, _) => if lentD D2 i v then some (nxD D2) else none
        | none => none
      else none
    | none => none
  else none
theorem ls_augix {Gm : T → T → Option T} {Fm : T → T → Option Out} {Pm : T → T → T → Option T} {G : ω → α → Option γ} {F : γ → β → Option δ} {P : ω → α → δ → Option ω} {get : S → ω} {set : ω → S → S}
    (hG : ∀ w k a, G w k = some a → Gm (ew w) (ea k) = some (eg a)) (hF : ∀ x y z, F x y = some z → Fm (eg x) (eb y) = some (.fz (ed z))) (hP : ∀ w k x w', P w k x = some w' → Pm (ew w) (ea k) (ed x) = some (ew w'))
    (hg : ∀ s, acc (V s) i v = ew (get s)) (hs : SetS V i v ew set) (hk' : LE V ma fa ea aba pa) (hv : LE V mb fb eb abb pb) : LS V (sAugIx i Gm Fm Pm ma mb) (tAugIx get set G F P fa fb : SX S R) er (xAugIx i v aba abb) := by
  intro D sd hk s c fl s' Rp hf
  unfold xAugIx at hk
  split at hk
  · rename_i l0
    split at hk
    · rename_i D1 k1 h1
      split at hk
      · rename_i l1
        split at hk
        · rename_i D2 k2 h2
          split at hk
          · rename_i l2
            cases hk
            unfold tAugIx at hf
            obtain ⟨⟨k, s1⟩, f1, hf⟩ := Option.bind_eq_some_iff.mp hf
            obtain ⟨a, f2, hf⟩ := Option.bind_eq_some_iff.mp hf
            obtain ⟨⟨b, s2⟩, f3, hf⟩ := Option.bind_eq_some_iff.mp hf
            obtain ⟨z, f4, hf⟩ := Option.bind_eq_some_iff.mp hf
            obtain ⟨w', f5, hf⟩ := Option.map_eq_some_iff.mp hf
            cases hf
            obtain ⟨r, c1, e1, R1, K1, P1⟩ := le_Fz hk' D _ _ h1 s c k s1 Rp f1
            have kF : k1 = .F := by
              unfold abFz at h1
              split at h1
              · split at h1
                · cases h1; rfl
                · cases h1
              · cases h1
            subst kF
            cases K1
            obtain ⟨rb, c2, e2, R2, K2, P2⟩ := hv D1 _ _ h2 s1 c1 b s2 R1 f3
            have o1 := owOf_lent R1 l1
            have o2 := owOf_lent R2 l2
            rw [hg] at o1 o2
            exact ⟨.nx, reC c2 i (ew w'), by unfold sAugIx; simp only [owOf_lent Rp l0, e1, o1, hG _ _ _ f2, e2, K2.pk, hF _ _ _ f4, o2, hP _ _ _ _ f5], rfl, D2, rfl, reC_lent R2 l2 (hs _ _)⟩
          · cases hk
        · cases hk
      · cases hk
    · cases hk
  · cases hk
/-! several names at once -/
def keepD (a : AE) : AE := fun D => match a D with
  | some (D1, .S i) => match frzD (.S i) D1 with
    | some D2 => some (D2, .F)
    | none => none
  | some (D1, .V i) => match frzD (.V i) D1 with
    | some D2 => some (D2, .F)
    | none => none
  | some (D1, .U) => some (D1.map weak, .W)
  | o => o
theorem le_keep (h : LE V m fa ea aba p) : LE V (mKeep m) fa ea (keepD aba) p := by
  intro D D' k hk s c x s' Rp hf
  unfold keepD at hk
  have val : ∀ {D1 : List Dc} {k : Kd} {r : Rs} {c1 : Cs}, k.val = true → m c = some (r, c1) → KdOk k (ea x) r c1 → mKeep m c = some (r, c1) := by
    intro D1 k r c1 hv e K
    unfold mKeep
    rw [e]
    rcases K.vw hv with rfl | rfl <;> rfl
  have slot : ∀ {D1 D2 : List Dc} {k : Kd} {r : Rs} {c1 : Cs}, m c = some (r, c1) → Rep (V s') D1 c1 → KdOk k (ea x) r c1 → (p = true → s' = s ∧ Frz c c1) → (∃ i, k = .S i ∨ k = .V i) → frzD k D1 = some D2 → ∃ r c', mKeep m c = some (r, c') ∧ Rep (V s') D2 c' ∧ KdOk .F (ea x) r c' ∧ (p = true → s' = s ∧ Frz c c') := by
    intro D1 D2 k r c1 e1 R1 K1 P1 hkk hd
    obtain ⟨c2, e2, R2, F2⟩ := frz_ok K1 R1 hd
    refine ⟨.fz (ea x), c2, ?_, R2, rfl, fun q => ⟨(P1 q).1, (P1 q).2.trans F2⟩⟩
    unfold mKeep
    rw [e1]
    cases r with
    | fz t' =>
      have : t' = ea x ∧ c1 = c2 := by cases e2; exact ⟨rfl, rfl⟩
      obtain ⟨rfl, rfl⟩ := this
      rfl
    | nw t' =>
      obtain ⟨i, rfl | rfl⟩ := hkk
      · cases K1.1
      · rcases K1 with ⟨z, _⟩ | ⟨z, _⟩ <;> cases z
    | sl i => simp only [e2]
  split at hk
  · rename_i D1 i h1
    split at hk
    · rename_i D2 h2
      cases hk
      obtain ⟨r, c1, e1, R1, K1, P1⟩ := h D _ _ h1 s c x s' Rp hf
      exact slot e1 R1 K1 P1 ⟨i, .inl rfl⟩ h2
    · cases hk
  · rename_i D1 i h1
    split at hk
    · rename_i D2 h2
      cases hk
      obtain ⟨r, c1, e1, R1, K1, P1⟩ := h D _ _ h1 s c x s' Rp hf
      exact slot e1 R1 K1 P1 ⟨i, .inr rfl⟩ h2
    · cases hk
  · rename_i D1 h1
    cases hk
    obtain ⟨r, c1, e1, R1, K1, P1⟩ := h D _ _ h1 s c x s' Rp hf
    rcases K1 with rfl | rfl | ⟨i, rfl, hc⟩
    · exact ⟨.fz (ea x), c1, by unfold mKeep; rw [e1], R1.weak, .inl rfl, P1⟩
    · exact ⟨.nw (ea x), c1, by unfold mKeep; rw [e1], R1.weak, .inr rfl, P1⟩
    · obtain ⟨c2, e2, R2, F2⟩ := frz_ok (k := .U) (.inr (.inr ⟨i, rfl, hc⟩)) R1 rfl
      exact ⟨.fz (ea x), c2, by unfold mKeep; rw [e1]; simp only [e2], R2, .inl rfl, fun q => ⟨(P1 q).1, (P1 q).2.trans F2⟩⟩
  · rename_i o n1 n2 n3
    obtain ⟨r, c1, e1, R1, K1, P1⟩ := h D _ _ hk s c x s' Rp hf
    have hv : k.val = true := by
      cases k with
      | S i => exact (n1 _ _ hk).elim
      | V i => exact (n2 _ _ hk).elim
      | U => exact (n3 _ hk).elim
      | _ => rfl
    exact ⟨r, c1, val (D1 := D') hv e1 K1, R1, K1, P1⟩
theorem put1_setR {r : Rs} {c : Cs} {t : T} (h : r = .fz t ∨ r = .nw t) : put1 i r c = setR i r c := by
  rcases h with rfl | rfl <;> (unfold put1 setR; cases c[i]? with
    | none => rfl
    | some x => cases x <;> rfl)
def xPar (i v j v' : Nat) (a b : AE) : AS := fun D => match keepD a D with
  | some (D1, k1) => match keepD b D1 with
    | some (D2, k2) => if k1.val && k2.val then match storeD k1 i v D2 with
        | some D3 => match storeD k2 j v' D3 with
          | some D4 => some (nxD D4)
          | none => none
        | none => none
      else none
    | none => none
  | none => none
theorem KdOk.any {k : Kd} {t : T} {r : Rs} {c c' : Cs} (h : KdOk k t r c) (hv : k.val = true) : KdOk k t r c' := by
  cases k with
  | F => exact h
  | N => exact h
  | W => exact h
  | S i => cases hv
  | V i => cases hv
  | U => cases hv
theorem ls_par {set : α → S → S} {set' : β → S → S} (hs : SetS V i v ea set) (hs' : SetS V j v' eb set') (ha : LE V ma fa ea aba pa) (hb : LE V mb fb eb abb pb) : LS V (sPar i j ma mb) (tPar set set' fa fb : SX S R) er (xPar i v j v' aba abb) := by
  intro D sd hk s c fl s' Rp hf
  unfold xPar at hk
  split at hk
  · rename_i D1 k1 h1
    split at hk
    · rename_i D2 k2 h2
      split at hk
      · rename_i hv
        obtain ⟨v1, v2⟩ := Bool.and_eq_true _ _ |>.mp hv
        split at hk
        · rename_i D3 h3
          split at hk
          · rename_i D4 h4
            cases hk
            unfold tPar at hf
            obtain ⟨⟨x, s1⟩, f1, hf⟩ := Option.bind_eq_some_iff.mp hf
            obtain ⟨⟨y, s2⟩, f2, hf⟩ := Option.map_eq_some_iff.mp hf
            cases hf
            obtain ⟨ra, c1, e1, R1, K1, P1⟩ := le_keep ha D _ _ h1 s c x s1 Rp f1
            obtain ⟨rb, c2, e2, R2, K2, P2⟩ := le_keep hb D1 _ _ h2 s1 c1 y s2 R1 f2
            obtain ⟨c3, e3, R3⟩ := store_ok (K1.any v1) R2 h3 (hs x s2)
            obtain ⟨c4, e4, R4⟩ := store_ok (K2.any v2) R3 h4 (hs' y _)
            rw [← put1_setR (K1.vw v1)] at e3
            rw [← put1_setR (K2.vw v2)] at e4
            exact ⟨.nx, c4, by unfold sPar; rw [e1]; simp only [e2, e3, e4], rfl, D4, rfl, R4⟩
          · cases hk
        · cases hk
      · cases hk
    · cases hk
  · cases hk
def xPar3 (i v j v' l v'' : Nat) (a b c : AE) : AS := fun D => match keepD a D with
  | some (D1, k1) => match keepD b D1 with
    | some (D2, k2) => match keepD c D2 with
      | some (D3, k3) => if k1.val && (k2.val && k3.val) then match storeD k1 i v D3 with
          | some D4 => match storeD k2 j v' D4 with
            | some D5 => match storeD k3 l v'' D5 with
              | some D6 => some (nxD D6)
              | none => none
            | none => none
          | none => none
        else none
      | none => none
    | none => none
  | none => none
theorem ls_par3 {fc : IX S γ} {set : α → S → S} {set' : β → S → S} {set'' : γ → S → S} (hs : SetS V i v ea set) (hs' : SetS V j v' eb set') (hs'' : SetS V l v'' eg set'') (ha : LE V ma fa ea aba pa) (hb : LE V mb fb eb abb pb) (hc : LE V mc fc eg abc pc) : LS V (sPar3 i j l ma mb mc) (tPar3 set set' set'' fa fb fc : SX S R) er (xPar3 i v j v' l v'' aba abb abc) := by
  intro D sd hk s c fl s' Rp hf
  unfold xPar3 at hk
  split at hk
  · rename_i D1 k1 h1
    split at hk
    · rename_i D2 k2 h2
      split at hk
      · rename_i D3 k3 h3
        split at hk
        · rename_i hv
          obtain ⟨v1, hv⟩ := Bool.and_eq_true _ _ |>.mp hv
          obtain ⟨v2, v3⟩ := Bool.and_eq_true _ _ |>.mp hv
          split at hk
          · rename_i D4 h4
            split at hk
            · rename_i D5 h5
              split at hk
              · rename_i D6 h6
                cases hk
                unfold tPar3 at hf
                obtain ⟨⟨x, s1⟩, f1, hf⟩ := Option.bind_eq_some_iff.mp hf
                obtain ⟨⟨y, s2⟩, f2, hf⟩ := Option.bind_eq_some_iff.mp hf
                obtain ⟨⟨z, s3⟩, f3, hf⟩ := Option.map_eq_some_iff.mp hf
                cases hf
                obtain ⟨ra, c1, e1, R1, K1, P1⟩ := le_keep ha D _ _ h1 s c x s1 Rp f1
                obtain ⟨rb, c2, e2, R2, K2, P2⟩ := le_keep hb D1 _ _ h2 s1 c1 y s2 R1 f2
                obtain ⟨rc, c3, e3, R3, K3, P3⟩ := le_keep hc D2 _ _ h3 s2 c2 z s3 R2 f3
                obtain ⟨c4, e4, R4⟩ := store_ok (K1.any v1) R3 h4 (hs x s3)
                obtain ⟨c5, e5, R5⟩ := store_ok (K2.any v2) R4 h5 (hs' y _)
                obtain ⟨c6, e6, R6⟩ := store_ok (K3.any v3) R5 h6 (hs'' z _)
                rw [← put1_setR (K1.vw v1)] at e4
                rw [← put1_setR (K2.vw v2)] at e5
                rw [← put1_setR (K3.vw v3)] at e6
                exact ⟨.nx, c6, by unfold sPar3; rw [e1]; simp only [e2, e3, e4, e5, e6], rfl, D6, rfl, R6⟩
              · cases hk
            · cases hk
          · cases hk
        · cases hk
      · cases hk
    · cases hk
  · cases hk
/-- a tuple that comes is taken apart -/
def xAsg (a : AE) (abg : AT) : AS := fun D => match abFz a D with
  | some (D1, _) => match abg D1 with
    | some D2 => some (nxD D2)
    | none => none
  | none => none
theorem ls_asg {set : α → S → S} (h : LE V m fa ea aba p) (hg : LG V g set ea abg ws) : LS V (sAsg m g) (tSet set fa : SX S R) er (xAsg aba abg) := by
  intro D sd hk s c fl s' Rp hf
  unfold xAsg at hk
  split at hk
  · rename_i D1 k1 h1
    split at hk
    · rename_i D2 h2
      cases hk
      unfold tSet at hf
      obtain ⟨⟨x, s1⟩, f1, hf⟩ := Option.map_eq_some_iff.mp hf
      cases hf
      obtain ⟨r, c1, e1, R1, K1, P1⟩ := le_Fz h D _ _ h1 s c x s1 Rp f1
      have kF : k1 = .F := by
        unfold abFz at h1
        split at h1
        · split at h1
          · cases h1; rfl
          · cases h1
        · cases h1
      subst kF
      cases K1
      obtain ⟨c2, e2, R2, _⟩ := hg D1 _ h2 s1 c1 x R1
      exact ⟨.nx, c2, by unfold sAsg; rw [e1]; simp only [e2], rfl, D2, rfl, R2⟩
    · cases hk
  · cases hk
/-! ### defs -/
def runT (nn : Option R) (b : SX S R) (s : S) : Option R := match b s with
  | some (.rt r, _) => some r
  | some (.nx, _) => nn
  | _ => none
def argD (n k : Nat) : List Dc := List.replicate n (.F 0) ++ List.replicate k .X
theorem rep_args {M : Tab} {ts : List T} {k : Nat} (h : ∀ i t, ts[i]? = some t → acc M i 0 = t) : Rep M (argD ts.length k) (ts.map Cell.fz ++ List.replicate k .un) := by
  refine ⟨by simp [argD], fun i d e => ?_⟩
  by_cases hi : i < ts.length
  · unfold argD at e
    rw [List.getElem?_append_left (by simpa using hi), List.getElem?_replicate_of_lt hi] at e
    cases e
    refine ⟨.fz ts[i], ?_, ?_⟩
    · rw [List.getElem?_append_left (by simpa using hi), List.getElem?_map, List.getElem?_eq_getElem hi]; rfl
    · show _ = _
      rw [h i _ (List.getElem?_eq_getElem hi)]
  · unfold argD at e
    have hl := lt_of_getD e
    rw [List.length_append, List.length_replicate, List.length_replicate] at hl
    rw [List.getElem?_append_right (by simpa using hi), List.getElem?_replicate_of_lt (by simp; omega)] at e
    cases e
    refine ⟨.un, ?_, fun u z => by cases z⟩
    rw [List.getElem?_append_right (by simpa using hi), List.getElem?_replicate_of_lt (by simp; omega)]
def rtK (sd : SD) (k : Kd) (none? : Bool) : Bool := (match sd.rt with
  | some (k', _) => k = k' || (k == .W && k'.val)
  | none => true) && (match sd.nx with
  | some _ => none? && (k == .F || k == .W)
  | none => true) && sd.bk.isNone && sd.ct.isNone
theorem fnp_of {k : Nat} {F : FN} {b : MS} {tb : SX S R} {x : AS} {n : Nat} {ini : α → S} {es : α → List T} {kd : Kd} {nn : Option R} {sd : SD} (hF : F = runF k b) (hb : LS V b tb er x) (hx : x (argD n k) = some sd) (hk : rtK sd kd nn.isSome = true) (hn : ∀ r, nn = some r → er r = .none)
    (hl : ∀ a, (es a).length = n) (hi : ∀ a i t, (es a)[i]? = some t → acc (V (ini a)) i 0 = t) : FnP F (fun a => runT nn tb (ini a)) es er kd := by
  intro a v hv
  have R0 := rep_args (k := k) (hi a)
  rw [hl] at R0
  have hv : (match tb (ini a) with | some (.rt r, _) => some r | some (.nx, _) => nn | _ => none) = some v := hv
  simp only [rtK, Bool.and_eq_true] at hk
  obtain ⟨⟨⟨hk1, hk2⟩, hk3⟩, hk4⟩ := hk
  split at hv
  · rename_i r s1 e
    cases hv
    obtain ⟨fl, c1, e1, o, rfl, k', D', hr, ok, R1⟩ := hb _ _ hx _ _ _ _ R0 e
    refine ⟨o, c1, ?_, ?_⟩
    · rw [hF]; unfold runF; rw [e1]
    · rw [hr] at hk1
      simp only [Bool.or_eq_true, Bool.and_eq_true, decide_eq_true_eq, beq_iff_eq] at hk1
      rcases hk1 with h | ⟨rfl, _⟩
      · rw [h]; exact ok
      · exact ok.W
  · rename_i s1 e
    obtain ⟨fl, c1, e1, rfl, D', hr, R1⟩ := hb _ _ hx _ _ _ _ R0 e
    refine ⟨.fz .none, c1, ?_, ?_⟩
    · rw [hF]; unfold runF; rw [e1]
    · rw [hr] at hk2
      simp only [Bool.or_eq_true, Bool.and_eq_true, beq_iff_eq] at hk2
      rw [hn v hv]
      rcases hk2.2 with rfl | rfl
      · rfl
      · exact .inl rfl
  · cases hv
end
end TY
namespace TY
open PySem PySem.Spec L2 TL
/-! ### texts: rows of code points -/
abbrev Ch := Fin 1114112
abbrev Tx := List Ch
def eS : En Tx := fun s => .str ⟨(s.map Fin.val).toArray⟩
theorem eS_lit {s : Tx} {x : Str} (h : (⟨(s.map Fin.val).toArray⟩ : Str) = x) : eS s = .str x := by unfold eS; rw [h]
section
variable {α β γ δ ε κ ω : Type}
/-! ### data that may be compared -/
class Dat (e : En α) (n : outParam Nat) : Prop where
  ok : ∀ (a : α) (m : Nat), n ≤ m → okD m (e a) = true
  eq : ∀ a b : α, PyData.eqv (e a) (e b) = true ↔ a = b
class NN (e : En α) : Prop where
  nn : ∀ a, e a ≠ .none
instance : NN eI := ⟨fun a h => by cases h⟩
instance : NN eB := ⟨fun a h => by cases h⟩
instance : NN eS := ⟨fun a h => by cases h⟩
instance {e : En α} : NN (eL e) := ⟨fun a h => by cases h⟩
instance {e : En α} : NN (eT e) := ⟨fun a h => by cases h⟩
instance {a : En α} : NN (e1 a) := ⟨fun a h => by cases h⟩
instance {a : En α} {b : En β} : NN (e2 a b) := ⟨fun a h => by cases h⟩
instance {a : En α} {b : En β} {c : En γ} : NN (e3 a b c) := ⟨fun a h => by cases h⟩
instance {a : En α} {b : En β} {c : En γ} {d : En δ} : NN (e4 a b c d) := ⟨fun a h => by cases h⟩
instance {a : En α} {b : En β} {c : En γ} {d : En δ} {e : En ε} : NN (e5 a b c d e) := ⟨fun a h => by cases h⟩
instance {k : En κ} {e : En α} : NN (eD k e) := ⟨fun a h => by cases h⟩
theorem Dat.eqb {e : En α} {n : Nat} [Dat e n] [DecidableEq α] (a b : α) : PyData.eqv (e a) (e b) = decide (a = b) := by
  by_cases h : a = b
  · rw [decide_eq_true h]; exact (Dat.eq a b).mpr h
  · rw [decide_eq_false h]
    cases q : PyData.eqv (e a) (e b) with
    | false => rfl
    | true => exact absurd ((Dat.eq a b).mp q) h
instance : Dat eI 0 := ⟨fun a m _ => by cases m <;> rfl, fun a b => by simp [eI, PyData.eqv]⟩
instance : Dat eB 0 := ⟨fun a m _ => by cases m <;> rfl, fun a b => by simp [eB, PyData.eqv]⟩
instance : Dat eN 0 := ⟨fun a m _ => by cases m <;> rfl, fun a b => by simp [eN, PyData.eqv]⟩
theorem strOk_tx (s : Tx) : PyData.strOk ⟨(s.map Fin.val).toArray⟩ = true := by
  unfold PyData.strOk
  rw [← Array.all_toList, List.all_eq_true]
  intro x hx
  simp only [List.mem_map] at hx
  obtain ⟨c, _, rfl⟩ := hx
  exact decide_eq_true c.2
theorem tx_inj {a b : Tx} (h : a.map Fin.val = b.map Fin.val) : a = b := by
  induction a generalizing b with
  | nil => cases b with
    | nil => rfl
    | cons y r => cases h
  | cons x q ih => cases b with
    | nil => cases h
    | cons y r =>
      rw [List.map_cons, List.map_cons] at h
      injection h with h1 h2
      rw [Fin.ext h1, ih h2]
instance : Dat eS 0 := ⟨fun a m _ => by cases m <;> exact strOk_tx a, fun a b => by
  simp only [eS, PyData.eqv, beq_iff_eq, Str.mk.injEq]
  constructor
  · intro h
    have : (a.map Fin.val) = (b.map Fin.val) := by simpa using congrArg Array.toList h
    exact tx_inj this
  · rintro rfl; rfl⟩
theorem okA_map {e : En α} {n : Nat} [Dat e n] (m : Nat) (h : n ≤ m) : ∀ xs : List α, okA m (xs.map e) = true
  | [] => by cases m <;> rfl
  | x :: xs => by rw [List.map_cons, okA, Dat.ok x m h, okA_map m h xs]; rfl
theorem eqvA_map {e : En α} {n : Nat} [Dat e n] : ∀ xs ys : List α, PyData.eqvAll (xs.map e) (ys.map e) = true ↔ xs = ys
  | [], [] => by simp [PyData.eqvAll]
  | [], y :: ys => by simp [PyData.eqvAll]
  | x :: xs, [] => by simp [PyData.eqvAll]
  | x :: xs, y :: ys => by
    rw [List.map_cons, List.map_cons, PyData.eqvAll, Bool.and_eq_true, Dat.eq x y, eqvA_map xs ys, List.cons.injEq]
instance {e : En α} {n : Nat} [Dat e n] : Dat (eL e) (n + 1) := ⟨fun a m h => by
  cases m with
  | zero => omega
  | succ m => show okA m (a.map e) = true; exact okA_map m (by omega) a, fun a b => by show PyData.eqvAll _ _ = true ↔ _; exact eqvA_map a b⟩
instance {e : En α} {n : Nat} [Dat e n] : Dat (eT e) (n + 1) := ⟨fun a m h => by
  cases m with
  | zero => omega
  | succ m => show okA m (a.map e) = true; exact okA_map m (by omega) a, fun a b => by show PyData.eqvAll _ _ = true ↔ _; exact eqvA_map a b⟩
instance {e : En α} {n : Nat} [Dat e n] [NN e] : Dat (eO e) n := ⟨fun a m h => by
  cases a with
  | none => cases m <;> rfl
  | some a => exact Dat.ok a m h, fun a b => by
  cases a with
  | none => cases b with
    | none => simp [eO, PyData.eqv]
    | some b =>
      have := NN.nn (e := e) b
      simp only [eO]
      cases h : e b <;> simp_all [PyData.eqv]
  | some a => cases b with
    | none =>
      have := NN.nn (e := e) a
      simp only [eO]
      cases h : e a <;> simp_all [PyData.eqv]
    | some b => simp only [eO, Option.some.injEq]; exact Dat.eq a b⟩
instance {a : En α} {n : Nat} [Dat a n] : Dat (e1 a) (n + 1) := ⟨fun x m h => by
  cases m with
  | zero => omega
  | succ m => show okA m [_] = true; simp only [okA, Dat.ok (n := n) x m (by omega), Bool.and_true], fun x y => by
  show PyData.eqvAll [_] [_] = true ↔ _
  simp only [PyData.eqvAll, Bool.and_true, Dat.eq]⟩
instance {a : En α} {b : En β} {n m : Nat} [Dat a n] [Dat b m] : Dat (e2 a b) (max n m + 1) := ⟨fun x k h => by
  cases k with
  | zero => omega
  | succ k => show okA k [_, _] = true; simp only [okA, Dat.ok (n := n) x.1 k (by omega), Dat.ok (n := m) x.2 k (by omega), Bool.and_true], fun x y => by
  show PyData.eqvAll [_, _] [_, _] = true ↔ _
  simp only [PyData.eqvAll, Bool.and_true, Bool.and_eq_true, Dat.eq, Prod.ext_iff]⟩
instance {a : En α} {b : En β} {c : En γ} {n m l : Nat} [Dat a n] [Dat b m] [Dat c l] : Dat (e3 a b c) (max n (max m l) + 1) := ⟨fun x k h => by
  cases k with
  | zero => omega
  | succ k => show okA k [_, _, _] = true; simp only [okA, Dat.ok (n := n) x.1 k (by omega), Dat.ok (n := m) x.2.1 k (by omega), Dat.ok (n := l) x.2.2 k (by omega), Bool.and_true], fun x y => by
  show PyData.eqvAll [_, _, _] [_, _, _] = true ↔ _
  simp only [PyData.eqvAll, Bool.and_true, Bool.and_eq_true, Dat.eq, Prod.ext_iff]⟩
instance {a : En α} {b : En β} {c : En γ} {d : En δ} {n m l o : Nat} [Dat a n] [Dat b m] [Dat c l] [Dat d o] : Dat (e4 a b c d) (max n (max m (max l o)) + 1) := ⟨fun x k h => by
  cases k with
  | zero => omega
  | succ k => show okA k [_, _, _, _] = true; simp only [okA, Dat.ok (n := n) x.1 k (by omega), Dat.ok (n := m) x.2.1 k (by omega), Dat.ok (n := l) x.2.2.1 k (by omega), Dat.ok (n := o) x.2.2.2 k (by omega), Bool.and_true], fun x y => by
  show PyData.eqvAll [_, _, _, _] [_, _, _, _] = true ↔ _
  simp only [PyData.eqvAll, Bool.and_true, Bool.and_eq_true, Dat.eq, Prod.ext_iff]⟩
instance {a : En α} {b : En β} {c : En γ} {d : En δ} {e : En ε} {n m l o q : Nat} [Dat a n] [Dat b m] [Dat c l] [Dat d o] [Dat e q] : Dat (e5 a b c d e) (max n (max m (max l (max o q))) + 1) := ⟨fun x k h => by
  cases k with
  | zero => omega
  | succ k => show okA k [_, _, _, _, _] = true; simp only [okA, Dat.ok (n := n) x.1 k (by omega), Dat.ok (n := m) x.2.1 k (by omega), Dat.ok (n := l) x.2.2.1 k (by omega), Dat.ok (n := o) x.2.2.2.1 k (by omega), Dat.ok (n := q) x.2.2.2.2 k (by omega), Bool.and_true], fun x y => by
  show PyData.eqvAll [_, _, _, _, _] [_, _, _, _, _] = true ↔ _
  simp only [PyData.eqvAll, Bool.and_true, Bool.and_eq_true, Dat.eq, Prod.ext_iff]⟩
/-! ### operations, and what they stand for -/
/-- of two values -/
abbrev H2 (Fm : T → T → Option Out) (F : α → β → Option γ) (ea : En α) (eb : En β) (eg : En γ) (o : Bool) : Prop := ∀ x y z, F x y = some z → Fm (ea x) (eb y) = some (mo o (eg z))
abbrev H1 (Fm : T → Option Out) (F : α → Option β) (ea : En α) (eb : En β) (o : Bool) : Prop := ∀ x z, F x = some z → Fm (ea x) = some (mo o (eb z))
abbrev HL (Fm : List T → Option Out) (F : α → Option β) (ea : α → List T) (eb : En β) (o : Bool) : Prop := ∀ x z, F x = some z → Fm (ea x) = some (mo o (eb z))
def addI (a b : Int) : Option Int := some (a + b)
theorem h_addI : H2 addT addI eI eI eI false := fun x y z h => by cases h; rfl
theorem h_augI : H2 augT addI eI eI eI false := fun x y z h => by cases h; rfl
def subI (a b : Int) : Option Int := some (a - b)
theorem h_subI : H2 subT subI eI eI eI false := fun x y z h => by cases h; rfl
def mulO (a b : Int) : Option Int := if (-(2 ^ 64) < a ∧ a < 2 ^ 64) ∨ (-(2 ^ 64) < b ∧ b < 2 ^ 64) then some (a * b) else none
theorem h_mulO : H2 mulI mulO eI eI eI false := fun x y z h => by
  unfold mulO at h
  split at h
  · rename_i c; cases h; exact if_pos c
  · cases h
def divO (a b : Int) : Option Int := if 0 < b ∧ b < 1073741824 then some (a / b) else none
theorem h_divO : H2 divT divO eI eI eI false := fun x y z h => by
  unfold divO at h
  split at h
  · rename_i c; cases h; exact if_pos c
  · cases h
def modO (a b : Int) : Option Int := if 0 < b then some (a % b) else none
theorem h_modO : H2 modT modO eI eI eI false := fun x y z h => by
  unfold modO at h
  split at h
  · rename_i c; cases h; exact if_pos c
  · cases h
def powO (a b : Int) : Option Int := if 0 ≤ b ∧ b ≤ 1000000 ∧ a.natAbs < 2 ^ 64 then some (a ^ b.toNat) else none
theorem h_powO : H2 powT powO eI eI eI false := fun x y z h => by
  unfold powO at h
  split at h
  · rename_i c; cases h; exact if_pos c
  · cases h
def shlO (a b : Int) : Option Int := if 0 ≤ b ∧ b ≤ 1000000 ∧ a.natAbs < 2 ^ 64 then some (a * 2 ^ b.toNat) else none
theorem h_shlO : H2 shlT shlO eI eI eI false := fun x y z h => by
  unfold shlO at h
  split at h
  · rename_i c; cases h; exact if_pos c
  · cases h
def shrO (a b : Int) : Option Int := if 0 ≤ b then some (a / 2 ^ b.toNat) else none
theorem h_shrO : H2 shrT shrO eI eI eI false := fun x y z h => by
  unfold shrO at h
  split at h
  · rename_i c; cases h; exact if_pos c
  · cases h
def negI (a : Int) : Option Int := some (-a)
theorem h_negI : H1 negT negI eI eI false := fun x z h => by cases h; rfl
def ltO (a b : Int) : Option Bool := some (decide (a < b))
theorem h_ltO : H2 ltI ltO eI eI eB false := fun x y z h => by cases h; rfl
def leO (a b : Int) : Option Bool := some (decide (a ≤ b))
theorem h_leO : H2 leI leO eI eI eB false := fun x y z h => by cases h; rfl
def gtO (a b : Int) : Option Bool := some (decide (b < a))
theorem h_gtO : H2 gtI gtO eI eI eB false := fun x y z h => by cases h; rfl
def geO (a b : Int) : Option Bool := some (decide (b ≤ a))
theorem h_geO : H2 geI geO eI eI eB false := fun x y z h => by cases h; rfl
def eqO [DecidableEq α] (a b : α) : Option Bool := some (decide (a = b))
theorem h_eqO {e : En α} {n : Nat} [Dat e n] [DecidableEq α] (hn : n ≤ 20 := by decide) : H2 eqT eqO e e eB false := fun x y z h => by
  cases h
  unfold eqT
  rw [Dat.ok x 20 hn, Dat.ok y 20 hn, Dat.eqb]; rfl
def neO [DecidableEq α] (a b : α) : Option Bool := some (decide (a ≠ b))
theorem h_neO {e : En α} {n : Nat} [Dat e n] [DecidableEq α] (hn : n ≤ 20 := by decide) : H2 neT neO e e eB false := fun x y z h => by
  cases h
  unfold neT
  rw [Dat.ok x 20 hn, Dat.ok y 20 hn, Dat.eqb]
  show some (Out.fz (.bool (!decide (x = y)))) = some (Out.fz (.bool (decide (x ≠ y))))
  by_cases h : x = y <;> simp [h]
def isNO (a : Option α) (_ : Unit) : Option Bool := some a.isNone
theorem h_isNO {e : En α} [NN e] : H2 isNT isNO (eO e) eN eB false := fun x y z h => by
  cases h
  cases x with
  | none => rfl
  | some a =>
    have := NN.nn (e := e) a
    show some (Out.fz (.bool (isNo (e a)))) = _
    cases q : e a <;> first | rfl | exact absurd q this
def isntNO (a : Option α) (_ : Unit) : Option Bool := some a.isSome
theorem h_isntNO {e : En α} [NN e] : H2 isntNT isntNO (eO e) eN eB false := fun x y z h => by
  cases h
  cases x with
  | none => rfl
  | some a =>
    have := NN.nn (e := e) a
    show some (Out.fz (.bool (!isNo (e a)))) = _
    cases q : e a <;> first | rfl | exact absurd q this
/-- a value that is none never -/
def isN0 (a : α) (_ : Unit) : Option Bool := some false
theorem h_isN0 {e : En α} [NN e] : H2 isNT isN0 e eN eB false := fun x y z h => by
  cases h
  have := NN.nn (e := e) x
  show some (Out.fz (.bool (isNo (e x)))) = _
  cases q : e x <;> first | rfl | exact absurd q this
def isntN0 (a : α) (_ : Unit) : Option Bool := some true
theorem h_isntN0 {e : En α} [NN e] : H2 isntNT isntN0 e eN eB false := fun x y z h => by
  cases h
  have := NN.nn (e := e) x
  show some (Out.fz (.bool (!isNo (e x)))) = _
  cases q : e x <;> first | rfl | exact absurd q this
def inO [DecidableEq α] (a : α) (xs : List α) : Option Bool := some (decide (a ∈ xs))
theorem any_mem {e : En α} {n : Nat} [Dat e n] [DecidableEq α] (a : α) : ∀ xs : List α, ((xs.map e).any fun y => PyData.eqv y (e a)) = decide (a ∈ xs)
  | [] => by simp
  | x :: xs => by
    rw [List.map_cons, List.any_cons, any_mem a xs, Dat.eqb]
    by_cases h : x = a
    · subst h; simp
    · have h' : ¬ a = x := fun z => h z.symm
      simp [h, h']
theorem h_inL {e : En α} {n : Nat} [Dat e n] [DecidableEq α] (hn : n ≤ 19 := by decide) : H2 inT inO e (eL e) eB false := fun x y z h => by
  cases h
  show (if okD 20 (e x) && okD 20 (.list (y.map e)) then some (Out.fz (.bool ((y.map e).any fun w => PyData.eqv w (e x)))) else none) = _
  rw [Dat.ok x 20 (by omega), show okD 20 (.list (y.map e)) = true from okA_map 19 hn y, any_mem]; rfl
theorem h_inT {e : En α} {n : Nat} [Dat e n] [DecidableEq α] (hn : n ≤ 19 := by decide) : H2 inT inO e (eT e) eB false := fun x y z h => by
  cases h
  show (if okD 20 (e x) && okD 20 (.tuple (y.map e)) then some (Out.fz (.bool ((y.map e).any fun w => PyData.eqv w (e x)))) else none) = _
  rw [Dat.ok x 20 (by omega), show okD 20 (.tuple (y.map e)) = true from okA_map 19 hn y, any_mem]; rfl
def ninO [DecidableEq α] (a : α) (xs : List α) : Option Bool := some (decide (a ∉ xs))
theorem h_ninL {e : En α} {n : Nat} [Dat e n] [DecidableEq α] (hn : n ≤ 19 := by decide) : H2 notInT ninO e (eL e) eB false := fun x y z h => by
  cases h
  show (if okD 20 (e x) && okD 20 (.list (y.map e)) then some (Out.fz (.bool (!(y.map e).any fun w => PyData.eqv w (e x)))) else none) = _
  rw [Dat.ok x 20 (by omega), show okD 20 (.list (y.map e)) = true from okA_map 19 hn y, any_mem]
  show some (Out.fz (.bool (!decide (x ∈ y)))) = some (Out.fz (.bool (decide (x ∉ y))))
  by_cases h : x ∈ y <;> simp [h]
theorem h_ninT {e : En α} {n : Nat} [Dat e n] [DecidableEq α] (hn : n ≤ 19 := by decide) : H2 notInT ninO e (eT e) eB false := fun x y z h => by
  cases h
  show (if okD 20 (e x) && okD 20 (.tuple (y.map e)) then some (Out.fz (.bool (!(y.map e).any fun w => PyData.eqv w (e x)))) else none) = _
  rw [Dat.ok x 20 (by omega), show okD 20 (.tuple (y.map e)) = true from okA_map 19 hn y, any_mem]
  show some (Out.fz (.bool (!decide (x ∈ y)))) = some (Out.fz (.bool (decide (x ∉ y))))
  by_cases h : x ∈ y <;> simp [h]
/-! rows -/
def atO (xs : List α) (i : Int) : Option α := (ixN xs.length i).bind fun j => xs[j]?
theorem at_enc {e : En α} (xs : List α) (i : Int) : atT (xs.map e) i = (atO xs i).map e := by
  unfold atT atO
  rw [List.length_map]
  cases ixN xs.length i with
  | none => rfl
  | some j => show (xs.map e)[j]? = (xs[j]?).map e; rw [List.getElem?_map]
theorem h_ixL {e : En α} : H2 ixT atO (eL e) eI e false := fun x y z h => by
  show (atT (x.map e) y).map Out.fz = _
  rw [at_enc, h]; rfl
theorem h_ixT {e : En α} : H2 ixT atO (eT e) eI e false := fun x y z h => by
  show (atT (x.map e) y).map Out.fz = _
  rw [at_enc, h]; rfl
/-- a text's sign -/
def atS (s : Tx) (i : Int) : Option Tx := if s.length ≤ sizeLine then (atO s i).map fun c => [c] else none
theorem h_ixS : H2 ixT atS eS eI eS false := fun x y z h => by
  unfold atS at h
  split at h
  · rename_i hl
    obtain ⟨c, h1, rfl⟩ := Option.map_eq_some_iff.mp h
    show (if (⟨(x.map Fin.val).toArray⟩ : Str).length ≤ sizeLine then (match atI (⟨(x.map Fin.val).toArray⟩ : Str).cps.toList y with
      | some c => some (Out.fz (.str ⟨#[c]⟩))
      | none => none) else none) = _
    have e1 : (⟨(x.map Fin.val).toArray⟩ : Str).length = x.length := by simp [Str.length]
    have e2 : atI (x.map Fin.val) y = some c.val := by
      unfold atI
      rw [List.length_map]
      unfold atO at h1
      cases q : ixN x.length y with
      | none => rw [q] at h1; cases h1
      | some j =>
        rw [q] at h1
        show (x.map Fin.val)[j]? = _
        rw [List.getElem?_map, show x[j]? = some c from h1]; rfl
    rw [e1, if_pos hl]
    simp only [e2]
    rfl
  · cases h
def lenO (a : List α × Unit) : Option Int := some (a.1.length : Int)
theorem h_lenL {e : En α} : HL lenT lenO (eCons (eL e) eNil) eI false := fun x z h => by
  cases h
  show some (Out.fz (.int ((x.1.map e).length : Int))) = _
  rw [List.length_map]; rfl
theorem h_lenT {e : En α} : HL lenT lenO (eCons (eT e) eNil) eI false := fun x z h => by
  cases h
  show some (Out.fz (.int ((x.1.map e).length : Int))) = _
  rw [List.length_map]; rfl
def lenS (a : Tx × Unit) : Option Int := if a.1.length ≤ sizeLine then some (a.1.length : Int) else none
theorem h_lenS : HL lenT lenS (eCons eS eNil) eI false := fun x z h => by
  unfold lenS at h
  split at h
  · rename_i hl
    cases h
    have e1 : (⟨(x.1.map Fin.val).toArray⟩ : Str).length = x.1.length := by simp [Str.length]
    show (if (⟨(x.1.map Fin.val).toArray⟩ : Str).length ≤ sizeLine then some (Out.fz (.int ((⟨(x.1.map Fin.val).toArray⟩ : Str).length : Int))) else none) = _
    rw [e1, if_pos hl]; rfl
  · cases h
def idO (a : α × Unit) : Option α := some a.1
theorem h_listL {e : En α} : HL listT idO (eCons (eL e) eNil) (eL e) true := fun x z h => by cases h; rfl
theorem h_listT {e : En α} : HL listT idO (eCons (eT e) eNil) (eL e) true := fun x z h => by cases h; rfl
theorem h_tupleL {e : En α} : HL tupleT idO (eCons (eL e) eNil) (eT e) false := fun x z h => by cases h; rfl
theorem h_tupleT {e : En α} : HL tupleT idO (eCons (eT e) eNil) (eT e) false := fun x z h => by cases h; rfl
theorem intsOf_enc (ns : List Int) : intsOf (ns.map eI) = some ns := intsOf_map ns
theorem boolsOf_enc : ∀ bs : List Bool, boolsOf (bs.map eB) = some bs
  | [] => rfl
  | b :: r => by
    rw [List.map_cons]
    show (match boolsOf (r.map eB) with | some is => some (b :: is) | none => none) = _
    rw [boolsOf_enc r]
def sumO (a : List Int × Unit) : Option Int := some a.1.sum
theorem h_sumL : HL sumA sumO (eCons (eL eI) eNil) eI false := fun x z h => by
  cases h
  show (match intsOf (x.1.map eI) with | some ns => some (Out.fz (.int ns.sum)) | none => none) = _
  rw [intsOf_enc]; rfl
theorem h_sumT : HL sumA sumO (eCons (eT eI) eNil) eI false := fun x z h => by
  cases h
  show (match intsOf (x.1.map eI) with | some ns => some (Out.fz (.int ns.sum)) | none => none) = _
  rw [intsOf_enc]; rfl
def allO (a : List Bool × Unit) : Option Bool := some (a.1.all id)
theorem h_allL : HL allT allO (eCons (eL eB) eNil) eB false := fun x z h => by
  cases h
  show (match boolsOf (x.1.map eB) with | some bs => some (Out.fz (.bool (bs.all id))) | none => none) = _
  rw [boolsOf_enc]; rfl
def anyO (a : List Bool × Unit) : Option Bool := some (a.1.any id)
theorem h_anyL : HL anyT anyO (eCons (eL eB) eNil) eB false := fun x z h => by
  cases h
  show (match boolsOf (x.1.map eB) with | some bs => some (Out.fz (.bool (bs.any id))) | none => none) = _
  rw [boolsOf_enc]; rfl
def absO (a : Int × Unit) : Option Int := some (if a.1 < 0 then -a.1 else a.1)
theorem h_absO : HL absT absO (eCons eI eNil) eI false := fun x z h => by cases h; rfl
def max2O (a : Int × Int × Unit) : Option Int := some (if a.2.1 > a.1 then a.2.1 else a.1)
theorem h_max2O : HL max2T max2O (eCons eI (eCons eI eNil)) eI false := fun x z h => by cases h; rfl
def min2O (a : Int × Int × Unit) : Option Int := some (if a.2.1 < a.1 then a.2.1 else a.1)
theorem h_min2O : HL min2T min2O (eCons eI (eCons eI eNil)) eI false := fun x z h => by cases h; rfl
theorem h_intI : HL toIntT idO (eCons eI eNil) eI false := fun x z h => by cases h; rfl
def intB (a : Bool × Unit) : Option Int := some (if a.1 then 1 else 0)
theorem h_intB : HL toIntT intB (eCons eB eNil) eI false := fun x z h => by cases h; rfl
def maxO (a : List Int × Unit) : Option Int := maxL a.1
theorem h_maxL : HL maxT maxO (eCons (eL eI) eNil) eI false := fun x z h => by
  show (match intsOf (x.1.map eI) with | some ns => (maxL ns).map fun m => Out.fz (.int m) | none => none) = _
  rw [intsOf_enc]
  show (maxL x.1).map (fun m => Out.fz (.int m)) = _
  rw [show maxL x.1 = some z from h]; rfl
def minO (a : List Int × Unit) : Option Int := minL a.1
theorem h_minL : HL minT minO (eCons (eL eI) eNil) eI false := fun x z h => by
  show (match intsOf (x.1.map eI) with | some ns => (minL ns).map fun m => Out.fz (.int m) | none => none) = _
  rw [intsOf_enc]
  show (minL x.1).map (fun m => Out.fz (.int m)) = _
  rw [show minL x.1 = some z from h]; rfl
def catO (a b : List α) : Option (List α) := if a.length + b.length ≤ sizeLine then some (a ++ b) else none
theorem h_catL {e : En α} : H2 addT catO (eL e) (eL e) (eL e) true := fun x y z h => by
  unfold catO at h
  split at h
  · rename_i hl
    cases h
    show (if (x.map e).length + (y.map e).length ≤ sizeLine then some (Out.nw (.list (x.map e ++ y.map e))) else none) = _
    rw [List.length_map, List.length_map, if_pos hl, ← List.map_append]; rfl
  · cases h
theorem h_catT {e : En α} : H2 addT catO (eT e) (eT e) (eT e) false := fun x y z h => by
  unfold catO at h
  split at h
  · rename_i hl
    cases h
    show (if (x.map e).length + (y.map e).length ≤ sizeLine then some (Out.fz (.tuple (x.map e ++ y.map e))) else none) = _
    rw [List.length_map, List.length_map, if_pos hl, ← List.map_append]; rfl
  · cases h
theorem h_catS : H2 addT catO eS eS eS false := fun x y z h => by
  unfold catO at h
  split at h
  · rename_i hl
    cases h
    have e1 : ∀ x : Tx, (⟨(x.map Fin.val).toArray⟩ : Str).length = x.length := fun x => by simp [Str.length]
    show (if (⟨(x.map Fin.val).toArray⟩ : Str).length + (⟨(y.map Fin.val).toArray⟩ : Str).length ≤ sizeLine then some (Out.fz (.str (⟨(x.map Fin.val).toArray⟩ ++ ⟨(y.map Fin.val).toArray⟩))) else none) = _
    rw [e1, e1, if_pos hl]
    show some (Out.fz (.str _)) = some (Out.fz (.str _))
    congr 3
    show Str.mk _ = Str.mk _
    simp
  · cases h
/-- .. times a number -/
def repO (xs : List α) (n : Int) : Option (List α) := if -(2 ^ 63) ≤ n ∧ n < 2 ^ 63 ∧ xs.length * n.toNat ≤ sizeLine then some (List.replicate n.toNat xs).flatten else none
theorem rep_map {e : En α} (xs : List α) : ∀ n : Nat, (List.replicate n (xs.map e)).flatten = (List.replicate n xs).flatten.map e
  | 0 => rfl
  | n + 1 => by rw [List.replicate_succ, List.replicate_succ, List.flatten_cons, List.flatten_cons, List.map_append, rep_map xs n]
def repTO (xs : List α) (z : Int) : Option (List α) := if (xs.isEmpty || z == 1) && decide (0 ≤ z) && decide (z ≤ 1000) then some xs else if !xs.isEmpty && decide (2 ≤ z) && decide (z ≤ 1000) && decide (xs.length ≤ 1000) then some (List.replicate z.toNat xs).flatten else none
theorem h_repT {e : En α} : H2 mulA repTO (eT e) eI (eT e) false := fun x y z h => by
  have e0 : mulI (eT e x) (eI y) = none := rfl
  unfold mulA
  rw [e0]
  show (if ((x.map e).isEmpty || y == 1) && decide (0 ≤ y) && decide (y ≤ 1000) then some (Out.fz (.tuple (x.map e))) else if !(x.map e).isEmpty && decide (2 ≤ y) && decide (y ≤ 1000) && decide ((x.map e).length ≤ 1000) then some (Out.fz (.tuple (List.replicate y.toNat (x.map e)).flatten)) else none) = _
  rw [List.isEmpty_map, List.length_map, rep_map]
  unfold repTO at h
  split at h
  · rename_i c; cases h; rw [if_pos c]; rfl
  · rename_i c
    rw [if_neg c]
    split at h
    · rename_i c; cases h; rw [if_pos c]; rfl
    · cases h
def cutL (xs : List α) (lo hi : Option Int) : List α := (xs.drop (HT.sIx xs.length 0 lo)).take (HT.sIx xs.length xs.length hi - HT.sIx xs.length 0 lo)
theorem cut_enc {e : En α} (xs : List α) (lo hi : Option Int) : cutT (xs.map e) lo hi = (cutL xs lo hi).map e := by
  unfold cutT cutL
  rw [List.length_map, List.map_take, List.map_drop]
def revO (xs : List α) : Option (List α) := some xs.reverse
theorem h_revL {e : En α} : H1 revT revO (eL e) (eL e) true := fun x z h => by
  cases h
  show some (Out.nw (.list (x.map e).reverse)) = _
  rw [← List.map_reverse]; rfl
/-! own lists -/
def appO (xs : List α) (a : α × Unit) : Option (List α × Unit) := if xs.length < sizeLine then some (xs ++ [a.1], ()) else none
theorem h_appO {e : En α} : ∀ w a w' b, appO w a = some (w', b) → appT (eL e w) (eCons e eNil a) = some (eL e w', eN b) := fun w a w' b h => by
  unfold appO at h
  split at h
  · rename_i hl
    cases h
    show (if (w.map e).length < sizeLine then some (PyData.list (w.map e ++ [e a.1]), PyData.none) else none) = some (PyData.list ((w ++ [a.1]).map e), PyData.none)
    rw [List.length_map, if_pos hl, List.map_append]; rfl
  · cases h
def extO (xs : List α) (a : List α × Unit) : Option (List α × Unit) := if xs.length + a.1.length ≤ sizeLine then some (xs ++ a.1, ()) else none
theorem h_extO {e : En α} : ∀ w a w' b, extO w a = some (w', b) → extT (eL e w) (eCons (eL e) eNil a) = some (eL e w', eN b) := fun w a w' b h => by
  unfold extO at h
  split at h
  · rename_i hl
    cases h
    show (if (w.map e).length + (a.1.map e).length ≤ sizeLine then some (PyData.list (w.map e ++ a.1.map e), PyData.none) else none) = some (PyData.list ((w ++ a.1).map e), PyData.none)
    rw [List.length_map, List.length_map, if_pos hl, List.map_append]
  · cases h
def popO (xs : List α) (_ : Unit) : Option (List α × α) := match xs.getLast? with
  | some a => some (xs.dropLast, a)
  | none => none
theorem h_popO {e : En α} : ∀ w a w' b, popO w a = some (w', b) → popT (eL e w) (eNil a) = some (eL e w', e b) := fun w a w' b h => by
  unfold popO at h
  split at h
  · rename_i x hx
    cases h
    show (match (w.map e)[(w.map e).length - 1]? with | some t => some (PyData.list (w.map e).dropLast, t) | none => none) = _
    rw [List.length_map, List.getElem?_map, ← List.getLast?_eq_getElem?, hx]
    show some (PyData.list (w.map e).dropLast, e b) = _
    rw [← List.map_dropLast]; rfl
  · cases h
def popAtO (xs : List α) (a : Int × Unit) : Option (List α × α) := if -(2 ^ 63) ≤ a.1 ∧ a.1 < 2 ^ 63 then (ixN xs.length a.1).bind fun j => (xs[j]?).map fun x => (xs.eraseIdx j, x) else none
theorem map_eraseIdx' {e : En α} : ∀ (xs : List α) (j : Nat), (xs.map e).eraseIdx j = (xs.eraseIdx j).map e
  | [], _ => rfl
  | x :: xs, 0 => rfl
  | x :: xs, j + 1 => by rw [List.map_cons, List.eraseIdx_cons_succ, map_eraseIdx' xs j]; rfl
theorem h_popAtO {e : En α} : ∀ w a w' b, popAtO w a = some (w', b) → popAtT (eL e w) (eCons eI eNil a) = some (eL e w', e b) := fun w a w' b h => by
  unfold popAtO at h
  split at h
  · rename_i hc
    obtain ⟨j, h1, h⟩ := Option.bind_eq_some_iff.mp h
    obtain ⟨x, h2, h⟩ := Option.map_eq_some_iff.mp h
    cases h
    show (if -(2 ^ 63) ≤ a.1 ∧ a.1 < 2 ^ 63 then match ixN (w.map e).length a.1 with
      | some j => match (w.map e)[j]? with
        | some t => some (PyData.list ((w.map e).eraseIdx j), t)
        | none => none
      | none => none
    else none) = _
    rw [if_pos hc, List.length_map, h1]
    simp only [List.getElem?_map, h2, Option.map_some, map_eraseIdx']
    rfl
  · cases h
def setO (xs : List α) (i : Int) (v : α) : Option (List α) := (ixN xs.length i).map fun j => xs.set j v
theorem h_setO {e : En α} : ∀ w k x w', setO w k x = some w' → putT (eL e w) (eI k) (e x) = some (eL e w') := fun w k x w' h => by
  unfold setO at h
  obtain ⟨j, h1, rfl⟩ := Option.map_eq_some_iff.mp h
  show (match ixN (w.map e).length k with | some j => some (PyData.list ((w.map e).set j (e x))) | none => none) = _
  rw [List.length_map, h1]
  simp only [← List.map_set]
  rfl
theorem h_getO {e : En α} : ∀ w k a, atO w k = some a → getT (eL e w) (eI k) = some (e a) := fun w k a h => by
  show (match ixN (w.map e).length k with | some j => (w.map e)[j]? | none => none) = _
  rw [List.length_map]
  unfold atO at h
  cases q : ixN w.length k with
  | none => rw [q] at h; cases h
  | some j =>
    rw [q] at h
    show (w.map e)[j]? = _
    rw [List.getElem?_map, show w[j]? = some a from h]; rfl
/-! ### the worker's row of drawn numbers -/
structure Wk where
  ds : List Int
  at' : Nat
def eW : En Wk := fun w => wT w.ds w.at'
def nextO (w : Wk) (a : Int × Unit) : Option (Int × Wk) := if 0 < a.1 then some (nxt w.ds w.at' a.1, ⟨w.ds, w.at' + 1⟩) else none
theorem fn_next {F : FN} (hF : F = runF 0 tNext) : FnB F nextO eW (eCons eI eNil) eI .F := by
  intro w a b w' h
  unfold nextO at h
  split at h
  · rename_i hm
    cases h
    subst hF
    exact ⟨_, _, next_run w.ds w.at' hm, rfl⟩
  · cases h
/-- one of a row -/
def pickO (w : Wk) (a : List α × Unit) : Option (α × Wk) := match a.1[(nxt w.ds w.at' a.1.length).toNat]? with
  | some x => some (x, ⟨w.ds, w.at' + 1⟩)
  | none => none
theorem fn_pickL {e : En α} {F F' : FN} (hF : F = runF 0 (tPick F')) (hF' : F' = runF 0 tNext) : FnB F pickO eW (eCons (eL e) eNil) e .F := by
  intro w a b w' h
  unfold pickO at h
  split at h
  · rename_i x hx
    cases h
    have hne : a.1.map e ≠ [] := by
      intro z
      have : a.1 = [] := by simpa using z
      rw [this] at hx; cases hx
    have := pick_run hF' w.ds w.at' hne
    subst hF
    refine ⟨_, _, this, ?_⟩
    show _ = _
    unfold pkt
    rw [List.length_map, List.getElem?_map, hx]; rfl
  · cases h
/-- what is drawn: the mirror's own -/
def drawsO (F : FN) (a : List Int × Int × Unit) : Option (List Int) := match F [.fz (eL eI a.1), .fz (eI a.2.1)] with
  | some (.nw (.list ts), _) => intsOf ts
  | _ => none
theorem intsOf_inv : ∀ {ts : List T} {ns : List Int}, intsOf ts = some ns → ts = ns.map eI
  | [], ns, h => by cases h; rfl
  | t :: r, ns, h => by
    cases t with
    | int i =>
      have h : (match intsOf r with | some is => some (i :: is) | none => none) = some ns := h
      cases q : intsOf r with
      | none => rw [q] at h; cases h
      | some is => rw [q] at h; cases h; rw [intsOf_inv q]; rfl
    | _ => cases h
theorem fn_draws {F : FN} : FnP F (drawsO F) (eCons (eL eI) (eCons eI eNil)) (eL eI) .N := by
  intro a b h
  unfold drawsO at h
  split at h
  · rename_i ts c' e
    refine ⟨_, _, e, ?_⟩
    show _ = _
    rw [intsOf_inv h]; rfl
  · cases h
theorem drawsO_of {F : FN} {ns ds : List Int} {many : Int} {c : Cs} (e : F [.fz (.list (ns.map .int)), .fz (.int many)] = some (.nw (.list (ds.map .int)), c)) : drawsO F (ns, many, ()) = some ds := by
  show (match F [.fz (.list (ns.map .int)), .fz (.int many)] with
    | some (.nw (.list ts), _) => intsOf ts
    | _ => none) = _
  rw [e]
  exact intsOf_map ds
theorem drawsO_some {F : FN} (hF : F = runF 6 tDraws) {ns : List Int} (hl : ns.length ≤ 63) (many : Nat) (hm : many ≤ 5000) : ∃ ds, drawsO F (ns, (many : Int), ()) = some ds := by
  obtain ⟨ds, o, c, e, q⟩ := draws_run ns hl many hm
  rw [q] at e
  rw [← hF] at e
  exact ⟨ds, drawsO_of e⟩
end
/-! .. as a written dict -/
section
variable {S α : Type} {V : S → Tab} {ma mb : ME} {fa : PX S (List Int)} {aba : AE}
def abW (a : AE) : AE := fun D => match abFz a D with
  | some (D1, _) => some (D1, .N)
  | none => none
theorem pl_w (ha : PL V ma fa (eL eI) aba) : PL V (mDisp [("draws", ma), ("at", mC (.int 0))]) (pUn (fun ds => some (Wk.mk ds 0)) fa) eW (abW aba) := by
  intro D D' k hk s c z s' R hf
  obtain ⟨h1, rfl⟩ := pu_of hf
  unfold abW at hk
  split at hk
  · rename_i D1 k1 h2
    cases hk
    unfold pUn at h1
    obtain ⟨ds, f1, f2⟩ := Option.bind_eq_some_iff.mp h1
    cases f2
    obtain ⟨r, c1, e1, R1, K1, P1⟩ := le_Fz ha D _ _ h2 s' c ds s' R (by unfold pu; rw [f1]; rfl)
    have kF : k1 = .F := by
      unfold abFz at h2
      split at h2
      · split at h2
        · cases h2; rfl
        · cases h2
      · cases h2
    subst kF
    cases K1
    refine ⟨.nw (wT ds 0), c1, ?_, R1, rfl, P1⟩
    unfold mDisp mPairs
    rw [e1]
    simp only [mPairs, mFz, mC, frz]
    rw [if_pos ⟨by simp, by simp only [List.map_cons, List.map_nil]; decide +kernel⟩]
    rfl
  · cases hk
end
end TY
namespace TY
open PySem PySem.Spec L2 TL
section
variable {S α β γ δ ω R κ : Type}
variable {V : S → Tab} {m ma mb mc : ME} {mt mn : MT} {ms : MA} {mi : MI} {b : MS} {F : FN} {er : En R} {ea : En α} {eb : En β} {eg : En γ} {ew : En ω} {fa : IX S α} {fb : IX S β} {aba abb : AE} {abt abn abi : AT} {abs : AA} {p pa pb : Bool} {i j v : Nat}
/-! ### Option -/
def unO (o : Option α) : Option α := o
theorem h_unO {e : En α} : ∀ (x : Option α) (z : α), unO x = some z → eO e x = e z := fun x z h => by
  have h : x = some z := h
  rw [h]; rfl
def toO (a : α) : Option (Option α) := some (some a)
theorem h_toO {e : En α} : ∀ (x : α) (z : Option α), toO x = some z → e x = eO e z := fun x z h => by cases h; rfl
/-! ### projections -/
theorem le_prj {F : α → Option β} {k : Int} (hF : ∀ x z, F x = some z → ixT (ea x) (.int k) = some (mo false (eb z))) (ha : LE V ma fa ea aba pa) : LE V (mOp ixT ma (mC (.int k))) (iUn F fa) eb (abUn false aba) pa := by
  intro D D' kd hk s c z s' Rp hf
  unfold abUn at hk
  split at hk
  · rename_i D1 k1 h1
    cases hk
    unfold iUn at hf
    obtain ⟨⟨x, s1⟩, f1, hf⟩ := Option.bind_eq_some_iff.mp hf
    obtain ⟨z', f3, hf⟩ := Option.map_eq_some_iff.mp hf
    cases hf
    obtain ⟨ra, c1, e1, R1, K1, P1⟩ := ha D _ k1 h1 s c x s1 Rp f1
    refine ⟨(mo false (eb z)).rs, c1, ?_, R1, mo_ok (b := false), P1⟩
    have e2 : mC (.int k) c1 = some (.fz (.int k), c1) := rfl
    have e3 : pk (Rs.fz (PyData.int k)) c1 = some (.int k) := rfl
    unfold mOp
    rw [e1]
    simp only [e2, e3, K1.pk, hF _ _ f3]
  · cases hk
theorem pl_prj {F : α → Option β} {k : Int} {fa : PX S α} (hF : ∀ x z, F x = some z → ixT (ea x) (.int k) = some (mo false (eb z))) (ha : PL V ma fa ea aba) : PL V (mOp ixT ma (mC (.int k))) (pUn F fa) eb (abUn false aba) := by
  have := le_prj hF ha
  rwa [iUn_pu] at this
/-! ### isinstance -/
theorem le_isi {F : α → Bool} {n : String} (hF : ∀ x, isiB (tyn (ea x)) n = F x) (ha : LE V ma fa ea aba pa) : LE V (mIsi n ma) (iUn (fun x => some (F x)) fa) eB (abUn false aba) pa := by
  intro D D' kd hk s c z s' Rp hf
  unfold abUn at hk
  split at hk
  · rename_i D1 k1 h1
    cases hk
    unfold iUn at hf
    obtain ⟨⟨x, s1⟩, f1, hf⟩ := Option.bind_eq_some_iff.mp hf
    obtain ⟨z', f3, hf⟩ := Option.map_eq_some_iff.mp hf
    cases hf
    cases f3
    obtain ⟨ra, c1, e1, R1, K1, P1⟩ := ha D _ k1 h1 s c x s1 Rp f1
    exact ⟨.fz (.bool (F x)), c1, by unfold mIsi; rw [e1]; simp only [K1.pk, hF], R1, rfl, P1⟩
  · cases hk
theorem pl_isi {F : α → Bool} {n : String} {fa : PX S α} (hF : ∀ x, isiB (tyn (ea x)) n = F x) (ha : PL V ma fa ea aba) : PL V (mIsi n ma) (pUn (fun x => some (F x)) fa) eB (abUn false aba) := by
  have := le_isi hF ha
  rwa [iUn_pu] at this
/-! ### [..] * n -/
def abRep (a b : AE) : AE := fun D => match a D with
  | some (D1, .N) => match b D1 with
    | some (D2, .F) => some (D2, .N)
    | _ => none
  | _ => none
theorem le_rep {fa : IX S (List α)} {fb : IX S Int} (ha : LE V ma fa (eL ea) aba pa) (hb : LE V mb fb eI abb pb) : LE V (mRep ma mb) (iOp repO fa fb) (eL ea) (abRep aba abb) (pa && pb) := by
  intro D D' kd hk s c z s' Rp hf
  unfold abRep at hk
  split at hk
  · rename_i D1 h1
    split at hk
    · rename_i D2 h2
      cases hk
      unfold iOp at hf
      obtain ⟨⟨x, s1⟩, f1, hf⟩ := Option.bind_eq_some_iff.mp hf
      obtain ⟨⟨y, s2⟩, f2, hf⟩ := Option.bind_eq_some_iff.mp hf
      obtain ⟨z', f3, hf⟩ := Option.map_eq_some_iff.mp hf
      cases hf
      obtain ⟨ra, c1, e1, R1, K1, P1⟩ := ha D _ _ h1 s c x s1 Rp f1
      obtain ⟨rb, c2, e2, R2, K2, P2⟩ := hb D1 _ _ h2 s1 c1 y s2 R1 f2
      cases K1; cases K2
      unfold repO at f3
      split at f3
      · rename_i hc
        cases f3
        refine ⟨.nw (.list ((List.replicate y.toNat x).flatten.map ea)), c2, ?_, R2, rfl, fun q => ?_⟩
        · unfold mRep
          rw [e1]
          simp only [eL, e2, eI, List.length_map, hc, and_self, if_true, rep_map]
        · rw [Bool.and_eq_true] at q
          exact ⟨(P2 q.2).1.trans (P1 q.1).1, (P1 q.1).2.trans (P2 q.2).2⟩
      · cases f3
    · cases hk
  · cases hk
theorem pl_rep {fa : PX S (List α)} {fb : PX S Int} (ha : PL V ma fa (eL ea) aba) (hb : PL V mb fb eI abb) : PL V (mRep ma mb) (pOp repO fa fb) (eL ea) (abRep aba abb) := by
  have := le_rep ha hb
  rwa [iOp_pu] at this
/-! ### slices, the bounds pure -/
def pPart (f : Option (PX S Int)) (s : S) : Option (Option Int) := match f with
  | none => some none
  | some g => (g s).map some
def abPart (a : Option AE) : AT := fun D => match a with
  | none => some D
  | some g => match g D with
    | some (D1, .F) => some D1
    | _ => none
/-- a bound that is written or not -/
def SO (V : S → Tab) (m : Option ME) (f : Option (PX S Int)) (ab : Option AE) : Prop := match m, f, ab with
  | none, none, none => True
  | some m, some f, some ab => PL V m f eI ab
  | _, _, _ => False
theorem so_n : SO V none none none := trivial
theorem so_s {f : PX S Int} (h : PL V m f eI aba) : SO V (some m) (some f) (some aba) := h
def partO (m : Option ME) (c : Cs) : Option (Option Int × Cs) := match m with
  | none => some (none, c)
  | some ml => match ml c with
    | some (.fz (.int i), cs2) => some (some i, cs2)
    | _ => none
theorem mSl_eq (m : ME) (lo hi : Option ME) (c : Cs) : mSl m lo hi c = match m c with
  | some (r, c1) => match partO lo c1 with
    | some (l, c2) => match partO hi c2 with
      | some (h, c3) => match pk r c3 with
        | some t => match slT t l h with
          | some o => some (o.rs, c3)
          | none => none
        | none => none
      | none => none
    | none => none
  | none => none := by cases lo <;> cases hi <;> rfl
theorem so_run {mo' : Option ME} {f : Option (PX S Int)} {ab : Option AE} (h : SO V mo' f ab) {D D' : List Dc} (hk : abPart ab D = some D') {s : S} {c : Cs} {o : Option Int} (R : Rep (V s) D c) (hf : pPart f s = some o) :
    ∃ c', partO mo' c = some (o, c') ∧ Rep (V s) D' c' ∧ Frz c c' := by
  cases mo' with
  | none =>
    cases f with
    | none =>
      cases ab with
      | none => cases hk; cases hf; exact ⟨c, rfl, R, .refl⟩
      | some _ => exact h.elim
    | some _ => exact h.elim
  | some m =>
    cases f with
    | none => exact h.elim
    | some f =>
      cases ab with
      | none => exact h.elim
      | some ab =>
        have h : PL V m f eI ab := h
        simp only [abPart] at hk
        split at hk
        · rename_i D1 h1
          cases hk
          obtain ⟨x, f1, rfl⟩ := Option.map_eq_some_iff.mp hf
          obtain ⟨r, c1, e1, R1, K1, P1⟩ := h D _ _ h1 s c x s R (by unfold pu; rw [f1]; rfl)
          cases K1
          exact ⟨c1, by simp only [partO, e1, eI], R1, (P1 rfl).2⟩
        · cases hk
def pSl (a : PX S (List α)) (lo hi : Option (PX S Int)) : PX S (List α) := fun s => (a s).bind fun x => (pPart lo s).bind fun l => (pPart hi s).map fun h => cutL x l h
def iSl (a : IX S (List α)) (lo hi : Option (PX S Int)) : IX S (List α) := fun s => (a s).bind fun x => (pPart lo x.2).bind fun l => (pPart hi x.2).map fun h => (cutL x.1 l h, x.2)
theorem iSl_pu {a : PX S (List α)} {lo hi : Option (PX S Int)} : iSl (pu a) lo hi = pu (pSl a lo hi) := by
  funext s
  simp only [iSl, pSl, pu]
  cases a s with
  | none => rfl
  | some x =>
    simp only [Option.map_some, Option.bind_some]
    cases pPart lo s with
    | none => rfl
    | some l =>
      simp only [Option.bind_some]
      cases pPart hi s <;> rfl
def abSl (o : Bool) (a : AE) (lo hi : Option AE) : AE := fun D => match a D with
  | some (D1, _) => match abPart lo D1 with
    | some D2 => match abPart hi D2 with
      | some D3 => some (D3, ko o)
      | none => none
    | none => none
  | none => none
theorem le_slG {fa : IX S (List α)} {e : En (List α)} {o : Bool} (hs : ∀ x l h, slT (e x) l h = some (mo o (e (cutL x l h)))) {ml mh : Option ME} {lo hi : Option (PX S Int)} {bl bh : Option AE} (ha : LE V ma fa e aba pa) (hl : SO V ml lo bl) (hh : SO V mh hi bh) : LE V (mSl ma ml mh) (iSl fa lo hi) e (abSl o aba bl bh) pa := by
  intro D D' kd hk s c z s' Rp hf
  unfold abSl at hk
  split at hk
  · rename_i D1 k1 h1
    split at hk
    · rename_i D2 h2
      split at hk
      · rename_i D3 h3
        cases hk
        unfold iSl at hf
        obtain ⟨⟨x, s1⟩, f1, hf⟩ := Option.bind_eq_some_iff.mp hf
        obtain ⟨l, f2, hf⟩ := Option.bind_eq_some_iff.mp hf
        obtain ⟨h, f3, hf⟩ := Option.map_eq_some_iff.mp hf
        cases hf
        obtain ⟨ra, c1, e1, R1, K1, P1⟩ := ha D _ k1 h1 s c x s1 Rp f1
        obtain ⟨c2, e2, R2, F2⟩ := so_run hl h2 R1 f2
        obtain ⟨c3, e3, R3, F3⟩ := so_run hh h3 R2 f3
        refine ⟨_, c3, ?_, R3, mo_ok, fun q => ⟨(P1 q).1, ((P1 q).2.trans F2).trans F3⟩⟩
        rw [mSl_eq, e1]
        simp only [e2, e3, K1.pk' (F2.trans F3), hs]
      · cases hk
    · cases hk
  · cases hk
theorem sl_L (x : List α) (l h : Option Int) : slT (eL ea x) l h = some (mo true (eL ea (cutL x l h))) := by
  show some (Out.nw (.list (cutT (x.map ea) l h))) = _
  rw [cut_enc]; rfl
theorem sl_T (x : List α) (l h : Option Int) : slT (eT ea x) l h = some (mo false (eT ea (cutL x l h))) := by
  show some (Out.fz (.tuple (cutT (x.map ea) l h))) = _
  rw [cut_enc]; rfl
theorem le_slL {fa : IX S (List α)} {ml mh : Option ME} {lo hi : Option (PX S Int)} {bl bh : Option AE} (ha : LE V ma fa (eL ea) aba pa) (hl : SO V ml lo bl) (hh : SO V mh hi bh) : LE V (mSl ma ml mh) (iSl fa lo hi) (eL ea) (abSl true aba bl bh) pa := le_slG sl_L ha hl hh
theorem le_slT {fa : IX S (List α)} {ml mh : Option ME} {lo hi : Option (PX S Int)} {bl bh : Option AE} (ha : LE V ma fa (eT ea) aba pa) (hl : SO V ml lo bl) (hh : SO V mh hi bh) : LE V (mSl ma ml mh) (iSl fa lo hi) (eT ea) (abSl false aba bl bh) pa := le_slG sl_T ha hl hh
theorem pl_slL {fa : PX S (List α)} {ml mh : Option ME} {lo hi : Option (PX S Int)} {bl bh : Option AE} (ha : PL V ma fa (eL ea) aba) (hl : SO V ml lo bl) (hh : SO V mh hi bh) : PL V (mSl ma ml mh) (pSl fa lo hi) (eL ea) (abSl true aba bl bh) := by
  have := le_slL ha hl hh
  rwa [iSl_pu] at this
theorem pl_slT {fa : PX S (List α)} {ml mh : Option ME} {lo hi : Option (PX S Int)} {bl bh : Option AE} (ha : PL V ma fa (eT ea) aba) (hl : SO V ml lo bl) (hh : SO V mh hi bh) : PL V (mSl ma ml mh) (pSl fa lo hi) (eT ea) (abSl false aba bl bh) := by
  have := le_slT ha hl hh
  rwa [iSl_pu] at this
/-! ### what a comprehension's own slots are behind it -/
theorem rst1 {rst : S → S → S} {i : Nat} (h : ∀ s0 s, ∃ r, V (rst s0 s) = (V s).set i r) : ∀ s0 s j, j ∉ [i] → acc (V (rst s0 s)) j = acc (V s) j := fun s0 s j hj => by
  obtain ⟨r, e⟩ := h s0 s
  rw [e, acc_set fun z => hj (by simp [z])]
theorem rst2 {rst : S → S → S} {i i' : Nat} (h : ∀ s0 s, ∃ r r', V (rst s0 s) = ((V s).set i r).set i' r') : ∀ s0 s j, j ∉ [i, i'] → acc (V (rst s0 s)) j = acc (V s) j := fun s0 s j hj => by
  obtain ⟨r, r', e⟩ := h s0 s
  rw [e, acc_set fun z => hj (by simp [z]), acc_set fun z => hj (by simp [z])]
theorem rst3 {rst : S → S → S} {i i' i'' : Nat} (h : ∀ s0 s, ∃ r r' r'', V (rst s0 s) = (((V s).set i r).set i' r').set i'' r'') : ∀ s0 s j, j ∉ [i, i', i''] → acc (V (rst s0 s)) j = acc (V s) j := fun s0 s j hj => by
  obtain ⟨r, r', r'', e⟩ := h s0 s
  rw [e, acc_set fun z => hj (by simp [z]), acc_set fun z => hj (by simp [z]), acc_set fun z => hj (by simp [z])]
/-! ### defs -/
def chkP (x : AS) (n k : Nat) (kd : Kd) (nn : Bool) : Bool := match x (argD n k) with
  | some sd => rtK sd kd nn
  | none => false
def hd0 (M : Tab) (n : Nat) : List T := (M.take n).map fun r => (r[0]?).getD .none
theorem hd0_acc {M : Tab} {n i : Nat} {t : T} (h : (hd0 M n)[i]? = some t) : acc M i 0 = t := by
  unfold hd0 at h
  rw [List.getElem?_map] at h
  cases e : (M.take n)[i]? with
  | none => rw [e] at h; cases h
  | some r =>
    rw [e] at h
    cases h
    rw [List.getElem?_take] at e
    split at e
    · unfold acc
      rw [e]; rfl
    · cases e
theorem fnp_on {tb : SX S R} {x : AS} {n k : Nat} {ini : α → S} {es : α → List T} {kd : Kd} {nn : Option R} (hF : F = runF k b) (hb : LS V b tb er x) (hx : chkP x n k kd nn.isSome = true) (hn : ∀ r, nn = some r → er r = .none)
    (hl : ∀ a, (es a).length = n) (hi : ∀ a, es a = hd0 (V (ini a)) n) : FnP F (fun a => runT nn tb (ini a)) es er kd := by
  unfold chkP at hx
  split at hx
  · rename_i sd e
    exact fnp_of hF hb e hx hn hl fun a i t h => hd0_acc (n := n) (by rw [← hi]; exact h)
  · cases hx
/-- the first argument is lent -/
def runB (nn : Option R) (get : S → ω) (b : SX S R) (s : S) : Option (R × ω) := match b s with
  | some (.rt r, s') => some (r, get s')
  | some (.nx, s') => nn.map fun r => (r, get s')
  | _ => none
def argB (n k : Nat) : List Dc := (Dc.B 0) :: argD n k
def b0 (D : List Dc) : Bool := decide (D[0]? = some (Dc.B 0))
def rtB (sd : SD) (k : Kd) (none? : Bool) : Bool := (match sd.rt with
  | some (k', D) => (k = k' || (k == .W && k'.val)) && b0 D
  | none => true) && (match sd.nx with
  | some D => none? && (k == .F || k == .W) && b0 D
  | none => true)
def chkB (x : AS) (n k : Nat) (kd : Kd) (nn : Bool) : Bool := match x (argB n k) with
  | some sd => rtB sd kd nn
  | none => false
theorem b0_at {M : Tab} {D : List Dc} {c : Cs} (R : Rep M D c) (h : b0 D = true) : ∃ r, c = .bo (acc M 0 0) :: r := by
  have e := of_decide_eq_true h
  obtain ⟨x, e1, o⟩ := R.at e
  cases o
  cases c with
  | nil => cases e1
  | cons y r => cases e1; exact ⟨r, rfl⟩
theorem rep_argsB {M : Tab} {t0 : T} {ts : List T} {k : Nat} (h0 : acc M 0 0 = t0) (h : ∀ i t, ts[i]? = some t → acc M (i + 1) 0 = t) : Rep M (argB ts.length k) (.bo t0 :: ts.map Cell.fz ++ List.replicate k .un) := by
  refine ⟨by simp [argB, argD], fun i d e => ?_⟩
  cases i with
  | zero => cases e; exact ⟨.bo t0, rfl, by show _ = _; rw [h0]⟩
  | succ i =>
    have e : (argD ts.length k)[i]? = some d := e
    have := (rep_args (M := ts.map fun t => [t]) (ts := ts) (k := k) (fun i t e => by unfold acc; rw [List.getElem?_map, e]; rfl)).2 i d e
    obtain ⟨x, e1, o⟩ := this
    refine ⟨x, e1, ?_⟩
    unfold argD at e
    by_cases hi : i < ts.length
    · rw [List.getElem?_append_left (by simpa using hi), List.getElem?_replicate_of_lt hi] at e
      cases e
      rw [List.getElem?_append_left (by simpa using hi), List.getElem?_map, List.getElem?_eq_getElem hi] at e1
      cases e1
      show _ = _
      rw [h i _ (List.getElem?_eq_getElem hi)]
    · have hl := lt_of_getD e
      rw [List.length_append, List.length_replicate, List.length_replicate] at hl
      rw [List.getElem?_append_right (by simpa using hi), List.getElem?_replicate_of_lt (by simp; omega)] at e
      cases e
      exact o
theorem fnb_of {tb : SX S R} {x : AS} {n k : Nat} {ini : ω → α → S} {es : α → List T} {kd : Kd} {nn : Option R} {get : S → ω} (hF : F = runF k b) (hb : LS V b tb er x) (hx : chkB x n k kd nn.isSome = true) (hn : ∀ r, nn = some r → er r = .none)
    (hl : ∀ a, (es a).length = n) (hi : ∀ w a, ew w :: es a = hd0 (V (ini w a)) (n + 1)) (hg : ∀ s, acc (V s) 0 0 = ew (get s)) : FnB F (fun w a => runB nn get tb (ini w a)) ew es er kd := by
  intro w a v w' hv
  unfold chkB at hx
  split at hx
  · rename_i sd hsd
    have hat : ∀ i t, (ew w :: es a)[i]? = some t → acc (V (ini w a)) i 0 = t := fun i t h => hd0_acc (n := n + 1) (by rw [← hi]; exact h)
    have R0 := rep_argsB (M := V (ini w a)) (t0 := ew w) (ts := es a) (k := k) (hat 0 _ rfl) (fun i t h => hat (i + 1) t h)
    rw [hl] at R0
    have hv : (match tb (ini w a) with | some (.rt r, s') => some (r, get s') | some (.nx, s') => nn.map fun r => (r, get s') | _ => none) = some (v, w') := hv
    simp only [rtB, Bool.and_eq_true] at hx
    obtain ⟨hk1, hk2⟩ := hx
    split at hv
    · rename_i r s1 e
      cases hv
      obtain ⟨fl, c1, e1, o, rfl, k', D', hr, ok, R1⟩ := hb _ _ hsd _ _ _ _ R0 e
      rw [hr] at hk1
      simp only [Bool.or_eq_true, Bool.and_eq_true, decide_eq_true_eq, beq_iff_eq] at hk1
      obtain ⟨q, ec⟩ := b0_at R1 hk1.2
      rw [hg] at ec
      refine ⟨o, q, ?_, ?_⟩
      · rw [hF]; unfold runF; rw [e1, ec]
      · rcases hk1.1 with h | ⟨rfl, _⟩
        · rw [h]; exact ok
        · exact ok.W
    · rename_i s1 e
      obtain ⟨r, hr', hv⟩ := Option.map_eq_some_iff.mp hv
      cases hv
      obtain ⟨fl, c1, e1, rfl, D', hr, R1⟩ := hb _ _ hsd _ _ _ _ R0 e
      rw [hr] at hk2
      simp only [Bool.or_eq_true, Bool.and_eq_true, beq_iff_eq] at hk2
      obtain ⟨q, ec⟩ := b0_at R1 hk2.2
      rw [hg] at ec
      refine ⟨.fz .none, q, ?_, ?_⟩
      · rw [hF]; unfold runF; rw [e1, ec]
      · rw [hn v hr']
        rcases hk2.1.2 with rfl | rfl
        · rfl
        · exact .inl rfl
    · cases hv
  · cases hx
/-! ### list(range(..)) -/
def rngA (n : Int) : Option (List Int) := rng1 (n, ())
def rngB (lo hi : Int) : Option (List Int) := rng2 (lo, hi, ())
/-! ### zip -/
theorem pi_zipLL {f : PX S (List α × List β × Unit)} (h : PA V ms f (eCons (eL ea) (eCons (eL eb) eNil)) abs) : PI V (iZip ms) (pUn zip2 f) (e2 ea eb) (abAT abs) := by
  intro D D' hk s c xs s' R hf
  obtain ⟨hf, rfl⟩ := pu_of hf
  unfold abAT at hk
  split at hk
  · rename_i D1 h1
    cases hk
    unfold pUn at hf
    obtain ⟨x, f1, hf⟩ := Option.bind_eq_some_iff.mp hf
    cases hf
    obtain ⟨rs, c1, e1, R1, K1, Q1, P1⟩ := h D _ _ h1 s' c x s' R (by unfold pu; rw [f1]; rfl)
    rw [Q1 rfl] at e1
    refine ⟨c1, ?_, R1, P1⟩
    unfold TL.iZip
    rw [e1]
    show some (zipT (x.1.map ea) (x.2.1.map eb), c1) = _
    rw [TY.zip_enc]
  · cases hk
theorem pi_zipTT {f : PX S (List α × List β × Unit)} (h : PA V ms f (eCons (eT ea) (eCons (eT eb) eNil)) abs) : PI V (iZip ms) (pUn zip2 f) (e2 ea eb) (abAT abs) := by
  intro D D' hk s c xs s' R hf
  obtain ⟨hf, rfl⟩ := pu_of hf
  unfold abAT at hk
  split at hk
  · rename_i D1 h1
    cases hk
    unfold pUn at hf
    obtain ⟨x, f1, hf⟩ := Option.bind_eq_some_iff.mp hf
    cases hf
    obtain ⟨rs, c1, e1, R1, K1, Q1, P1⟩ := h D _ _ h1 s' c x s' R (by unfold pu; rw [f1]; rfl)
    rw [Q1 rfl] at e1
    refine ⟨c1, ?_, R1, P1⟩
    unfold TL.iZip
    rw [e1]
    show some (zipT (x.1.map ea) (x.2.1.map eb), c1) = _
    rw [TY.zip_enc]
  · cases hk
end
end TY
namespace TY
open PySem PySem.Spec L2 TL
/-! ### orders -/
class Od (α : Type) where
  lt : α → α → Bool
  irr : ∀ a, lt a a = false
  tr : ∀ a b c, lt a b = true → lt b c = true → lt a c = true
  tri : ∀ a b, lt a b = false → lt b a = false → a = b
instance : Od Int := ⟨fun a b => decide (a < b), fun a => by simp, fun a b c h k => by simp only [decide_eq_true_eq] at *; omega, fun a b h k => by simp only [decide_eq_false_iff_not] at *; omega⟩
instance : Od Ch := ⟨fun a b => decide (a < b), fun a => by simp, fun a b c h k => by simp only [decide_eq_true_eq, Fin.lt_def] at *; omega, fun a b h k => by simp only [decide_eq_false_iff_not, Fin.lt_def] at *; exact Fin.ext (by omega)⟩
def lexB {α : Type} [Od α] [DecidableEq α] : List α → List α → Bool
  | [], [] => false
  | [], _ :: _ => true
  | _ :: _, [] => false
  | a :: r, b :: q => if a = b then lexB r q else Od.lt a b
theorem Od.asy {α : Type} [Od α] {a b : α} (h : Od.lt a b = true) : Od.lt b a = false := by
  cases e : Od.lt b a with
  | false => rfl
  | true =>
    have := Od.tr a b a h e
    rw [Od.irr] at this; cases this
theorem Od.ne {α : Type} [Od α] {a b : α} (h : Od.lt a b = true) : a ≠ b := by
  rintro rfl
  rw [Od.irr] at h; cases h
section
variable {α β γ δ ε : Type}
theorem lexB_irr [Od α] [DecidableEq α] : ∀ a : List α, lexB a a = false
  | [] => rfl
  | a :: r => by rw [lexB, if_pos rfl, lexB_irr r]
theorem lexB_tr [Od α] [DecidableEq α] : ∀ a b c : List α, lexB a b = true → lexB b c = true → lexB a c = true
  | [], [], c, h, k => by cases h
  | [], b :: q, [], h, k => by cases k
  | [], b :: q, c :: p, h, k => rfl
  | a :: r, [], c, h, k => by cases h
  | a :: r, b :: q, [], h, k => by cases k
  | a :: r, b :: q, c :: p, h, k => by
    rw [lexB] at h k ⊢
    by_cases h1 : a = b
    · subst h1
      rw [if_pos rfl] at h
      by_cases h2 : a = c
      · rw [if_pos h2] at k ⊢; exact lexB_tr r q p h k
      · rw [if_neg h2] at k ⊢; exact k
    · rw [if_neg h1] at h
      by_cases h2 : b = c
      · subst h2; rw [if_neg h1]; exact h
      · rw [if_neg h2] at k
        have h3 := Od.tr a b c h k
        rw [if_neg (Od.ne h3)]; exact h3
theorem lexB_tri [Od α] [DecidableEq α] : ∀ a b : List α, lexB a b = false → lexB b a = false → a = b
  | [], [], _, _ => rfl
  | [], b :: q, h, _ => by cases h
  | a :: r, [], _, k => by cases k
  | a :: r, b :: q, h, k => by
    rw [lexB] at h k
    by_cases h1 : a = b
    · subst h1
      rw [if_pos rfl] at h k
      rw [lexB_tri r q h k]
    · rw [if_neg h1] at h
      rw [if_neg fun z => h1 z.symm] at k
      exact absurd (Od.tri a b h k) h1
instance [Od α] [DecidableEq α] : Od (List α) := ⟨lexB, lexB_irr, lexB_tr, lexB_tri⟩
instance [Od α] [DecidableEq α] [Od β] : Od (α × β) := ⟨fun a b => if a.1 = b.1 then Od.lt a.2 b.2 else Od.lt a.1 b.1, fun a => by simp [Od.irr], fun a b c h k => by
  by_cases h1 : a.1 = b.1
  · rw [if_pos h1] at h
    by_cases h2 : b.1 = c.1
    · rw [if_pos h2] at k
      rw [if_pos (h1.trans h2)]; exact Od.tr _ _ _ h k
    · rw [if_neg h2] at k
      rw [if_neg (h1 ▸ h2), h1]; exact k
  · rw [if_neg h1] at h
    by_cases h2 : b.1 = c.1
    · rw [if_neg (h2 ▸ h1), ← h2]; exact h
    · rw [if_neg h2] at k
      have h3 := Od.tr _ _ _ h k
      rw [if_neg (Od.ne h3)]; exact h3, fun a b h k => by
  by_cases h1 : a.1 = b.1
  · rw [if_pos h1] at h
    rw [if_pos h1.symm] at k
    exact Prod.ext h1 (Od.tri _ _ h k)
  · rw [if_neg h1] at h
    rw [if_neg fun z => h1 z.symm] at k
    exact absurd (Od.tri _ _ h k) h1⟩
/-- .. and the trees' -/
class OdE (e : En α) [Od α] : Prop where
  lt : ∀ a b, W.dataLt (e a) (e b) = Od.lt a b
  al : ∀ a b, W.alike (e a) (e b) = true
  no : ∀ a, isNo (e a) = false
instance : OdE eI := ⟨fun a b => W.dataLt_int a b, fun a b => rfl, fun a => rfl⟩
theorem lex_nat : ∀ a b : Tx, decide (a.map Fin.val < b.map Fin.val) = lexB a b
  | [], [] => by simp [lexB]
  | [], b :: q => by simp [lexB]
  | a :: r, [] => by simp [lexB]
  | a :: r, b :: q => by
    have ih := lex_nat r q
    rw [lexB, ← ih]
    by_cases h : a = b
    · subst h; simp
    · rw [if_neg h]
      show decide _ = decide (a < b)
      have hv : a.val ≠ b.val := fun z => h (Fin.ext z)
      by_cases h2 : a < b
      · simp [List.cons_lt_cons_iff, h2, Fin.lt_def.mp h2]
      · have : ¬ a.val < b.val := fun z => h2 (Fin.lt_def.mpr z)
        simp [List.cons_lt_cons_iff, h2, this, hv]
instance : OdE eS := ⟨fun a b => by
  show W.dataLt (.str _) (.str _) = lexB a b
  rw [W.dataLt_str, ← lex_nat a b], fun a b => rfl, fun a => rfl⟩
theorem alikeA_map [Od α] {e : En α} [OdE e] : ∀ xs ys : List α, W.alikeAll (xs.map e) (ys.map e) = true
  | [], _ => by cases ‹List α› <;> rfl
  | _ :: _, [] => rfl
  | x :: xs, y :: ys => by
    rw [List.map_cons, List.map_cons, W.alikeAll, OdE.al x y, alikeA_map xs ys]; rfl
theorem lt_cons [Od α] [DecidableEq α] {e : En α} {n : Nat} [Dat e n] [OdE e] (x y : α) (xs ys : List T) : PyProof.Rows.lexLt PyProof.Rows.itemOrd (W.keyToksAll (e x :: xs)) (W.keyToksAll (e y :: ys)) = if x = y then PyProof.Rows.lexLt PyProof.Rows.itemOrd (W.keyToksAll xs) (W.keyToksAll ys) else Od.lt x y := by
  rw [W.dataLt_cons (OdE.al (e := e) x y), Dat.eqb, OdE.lt]
  by_cases h : x = y <;> simp [h]
theorem lt_nil : PyProof.Rows.lexLt PyProof.Rows.itemOrd (W.keyToksAll []) (W.keyToksAll []) = false := by decide +kernel
theorem lt_map [Od α] [DecidableEq α] {e : En α} {n : Nat} [Dat e n] [OdE e] : ∀ xs ys : List α, PyProof.Rows.lexLt PyProof.Rows.itemOrd (W.keyToksAll (xs.map e)) (W.keyToksAll (ys.map e)) = lexB xs ys
  | [], [] => lt_nil
  | [], y :: ys => by rw [List.map_cons, W.toks_all_cons]; rfl
  | x :: xs, [] => by rw [List.map_cons, W.toks_all_cons]; rfl
  | x :: xs, y :: ys => by rw [List.map_cons, List.map_cons, lt_cons, lt_map xs ys]; rfl
instance [Od α] [DecidableEq α] {e : En α} {n : Nat} [Dat e n] [OdE e] : OdE (eL e) := ⟨fun a b => (W.dataLt_list _ _).trans (lt_map (e := e) a b), fun a b => alikeA_map (e := e) a b, fun a => rfl⟩
instance [Od α] [DecidableEq α] {e : En α} {n : Nat} [Dat e n] [OdE e] : OdE (eT e) := ⟨fun a b => (W.dataLt_tuple _ _).trans (lt_map (e := e) a b), fun a b => alikeA_map (e := e) a b, fun a => rfl⟩
instance [Od α] [DecidableEq α] {a : En α} {n : Nat} [Dat a n] [OdE a] : OdE (e1 a) := ⟨fun x y => by
  rw [show e1 a x = .tuple [a x] from rfl, show e1 a y = .tuple [a y] from rfl, W.dataLt_tuple, lt_cons, lt_nil]
  by_cases h : x = y
  · subst h; simp [Od.irr]
  · simp [h], fun x y => by
  show W.alikeAll [_] [_] = true
  simp only [W.alikeAll, OdE.al, Bool.and_true], fun x => rfl⟩
instance [Od α] [DecidableEq α] [Od β] [DecidableEq β] {a : En α} {b : En β} {n m : Nat} [Dat a n] [OdE a] [Dat b m] [OdE b] : OdE (e2 a b) := ⟨fun x y => by
  rw [show e2 a b x = .tuple [a x.1, b x.2] from rfl, show e2 a b y = .tuple [a y.1, b y.2] from rfl, W.dataLt_tuple, lt_cons, lt_cons, lt_nil]
  show _ = if x.1 = y.1 then Od.lt x.2 y.2 else Od.lt x.1 y.1
  by_cases h : x.1 = y.1
  · rw [if_pos h, if_pos h]
    by_cases h2 : x.2 = y.2
    · rw [if_pos h2, h2, Od.irr]
    · rw [if_neg h2]
  · rw [if_neg h, if_neg h], fun x y => by
  show W.alikeAll [_, _] [_, _] = true
  simp only [W.alikeAll, OdE.al, Bool.and_true], fun x => rfl⟩
instance [Od α] [DecidableEq α] [Od β] [DecidableEq β] [Od γ] [DecidableEq γ] {a : En α} {b : En β} {c : En γ} {n m l : Nat} [Dat a n] [OdE a] [Dat b m] [OdE b] [Dat c l] [OdE c] : OdE (e3 a b c) := ⟨fun x y => by
  rw [show e3 a b c x = .tuple [a x.1, b x.2.1, c x.2.2] from rfl, show e3 a b c y = .tuple [a y.1, b y.2.1, c y.2.2] from rfl, W.dataLt_tuple, lt_cons, lt_cons, lt_cons, lt_nil]
  show _ = if x.1 = y.1 then (if x.2.1 = y.2.1 then Od.lt x.2.2 y.2.2 else Od.lt x.2.1 y.2.1) else Od.lt x.1 y.1
  by_cases h : x.1 = y.1
  · rw [if_pos h, if_pos h]
    by_cases h2 : x.2.1 = y.2.1
    · rw [if_pos h2, if_pos h2]
      by_cases h3 : x.2.2 = y.2.2
      · rw [if_pos h3, h3, Od.irr]
      · rw [if_neg h3]
    · rw [if_neg h2, if_neg h2]
  · rw [if_neg h, if_neg h], fun x y => by
  show W.alikeAll [_, _, _] [_, _, _] = true
  simp only [W.alikeAll, OdE.al, Bool.and_true], fun x => rfl⟩
instance [Od α] [DecidableEq α] [Od β] [DecidableEq β] [Od γ] [DecidableEq γ] [Od δ] [DecidableEq δ] {a : En α} {b : En β} {c : En γ} {d : En δ} {n m l o : Nat} [Dat a n] [OdE a] [Dat b m] [OdE b] [Dat c l] [OdE c] [Dat d o] [OdE d] : OdE (e4 a b c d) := ⟨fun x y => by
  rw [show e4 a b c d x = .tuple [a x.1, b x.2.1, c x.2.2.1, d x.2.2.2] from rfl, show e4 a b c d y = .tuple [a y.1, b y.2.1, c y.2.2.1, d y.2.2.2] from rfl, W.dataLt_tuple, lt_cons, lt_cons, lt_cons, lt_cons, lt_nil]
  show _ = if x.1 = y.1 then (if x.2.1 = y.2.1 then (if x.2.2.1 = y.2.2.1 then Od.lt x.2.2.2 y.2.2.2 else Od.lt x.2.2.1 y.2.2.1) else Od.lt x.2.1 y.2.1) else Od.lt x.1 y.1
  by_cases h : x.1 = y.1
  · rw [if_pos h, if_pos h]
    by_cases h2 : x.2.1 = y.2.1
    · rw [if_pos h2, if_pos h2]
      by_cases h3 : x.2.2.1 = y.2.2.1
      · rw [if_pos h3, if_pos h3]
        by_cases h4 : x.2.2.2 = y.2.2.2
        · rw [if_pos h4, h4, Od.irr]
        · rw [if_neg h4]
      · rw [if_neg h3, if_neg h3]
    · rw [if_neg h2, if_neg h2]
  · rw [if_neg h, if_neg h], fun x y => by
  show W.alikeAll [_, _, _, _] [_, _, _, _] = true
  simp only [W.alikeAll, OdE.al, Bool.and_true], fun x => rfl⟩
/-! comparisons -/
theorem h_ltGI : H2 ltG ltO eI eI eB false := fun x y z h => by cases h; rfl
theorem h_gtGI : H2 gtG gtO eI eI eB false := fun x y z h => by cases h; rfl
theorem h_leGI : H2 leG leO eI eI eB false := fun x y z h => by cases h; rfl
theorem h_geGI : H2 geG geO eI eI eB false := fun x y z h => by cases h; rfl
def ltX [Od α] (a b : α) : Option Bool := some (Od.lt a b)
def gtX [Od α] (a b : α) : Option Bool := some (Od.lt b a)
def leX [Od α] (a b : α) : Option Bool := some (!Od.lt b a)
def geX [Od α] (a b : α) : Option Bool := some (!Od.lt a b)
theorem cmpG_enc [Od α] {e : En α} {n : Nat} [Dat e n] [OdE e] (hn : n ≤ 20) (g : T → T → Bool) (a b : α) : cmpG g (e a) (e b) = some (.fz (.bool (g (e a) (e b)))) := by
  unfold cmpG
  rw [Dat.ok (n := n) a 20 hn, Dat.ok (n := n) b 20 hn, OdE.al, OdE.no]; rfl
class NI (e : En α) : Prop where
  ni : ∀ a i, e a ≠ .int i
instance : NI eS := ⟨fun a i h => by cases h⟩
instance {e : En α} : NI (eL e) := ⟨fun a i h => by cases h⟩
instance {e : En α} : NI (eT e) := ⟨fun a i h => by cases h⟩
instance {a : En α} : NI (e1 a) := ⟨fun a i h => by cases h⟩
instance {a : En α} {b : En β} : NI (e2 a b) := ⟨fun a i h => by cases h⟩
instance {a : En α} {b : En β} {c : En γ} : NI (e3 a b c) := ⟨fun a i h => by cases h⟩
instance {a : En α} {b : En β} {c : En γ} {d : En δ} : NI (e4 a b c d) := ⟨fun a i h => by cases h⟩
theorem intF_ni {C : Int → Int → Prop} [∀ i j, Decidable (C i j)] {g : Int → Int → T} {t u : T} (h : ∀ i, t ≠ .int i) : intF C g t u = none := by
  cases t <;> first | rfl | exact absurd rfl (h _)
theorem h_ltGX [Od α] {e : En α} {n : Nat} [Dat e n] [OdE e] [NI e] (hn : n ≤ 20 := by decide) : H2 ltG ltX e e eB false := fun x y z h => by
  cases h
  unfold ltG ltI
  rw [intF_ni (NI.ni (e := e) x)]
  show cmpG _ _ _ = _
  rw [cmpG_enc hn, OdE.lt]; rfl
theorem h_gtGX [Od α] {e : En α} {n : Nat} [Dat e n] [OdE e] [NI e] (hn : n ≤ 20 := by decide) : H2 gtG gtX e e eB false := fun x y z h => by
  cases h
  unfold gtG gtI
  rw [intF_ni (NI.ni (e := e) x)]
  show cmpG _ _ _ = _
  rw [cmpG_enc hn, OdE.lt]; rfl
theorem h_leGX [Od α] {e : En α} {n : Nat} [Dat e n] [OdE e] [NI e] (hn : n ≤ 20 := by decide) : H2 leG leX e e eB false := fun x y z h => by
  cases h
  unfold leG leI
  rw [intF_ni (NI.ni (e := e) x)]
  show cmpG _ _ _ = _
  rw [cmpG_enc hn, OdE.lt]; rfl
theorem h_geGX [Od α] {e : En α} {n : Nat} [Dat e n] [OdE e] [NI e] (hn : n ≤ 20 := by decide) : H2 geG geX e e eB false := fun x y z h => by
  cases h
  unfold geG geI
  rw [intF_ni (NI.ni (e := e) x)]
  show cmpG _ _ _ = _
  rw [cmpG_enc hn, OdE.lt]; rfl
/-! least and greatest -/
def minF [Od α] (x : α) (xs : List α) : α := xs.foldl (fun a y => if Od.lt y a = true then y else a) x
def maxF [Od α] (x : α) (xs : List α) : α := xs.foldl (fun a y => if Od.lt a y = true then y else a) x
def minX [Od α] (a : List α × Unit) : Option α := match a.1 with
  | [] => none
  | x :: xs => some (minF x xs)
def maxX [Od α] (a : List α × Unit) : Option α := match a.1 with
  | [] => none
  | x :: xs => some (maxF x xs)
theorem minF_enc [Od α] {e : En α} [OdE e] : ∀ (xs : List α) (x : α), W.minD (e x) (xs.map e) = e (minF x xs)
  | [], x => rfl
  | y :: ys, x => by
    have ih := minF_enc (e := e) ys
    unfold W.minD minF at *
    rw [List.map_cons, List.foldl_cons, List.foldl_cons, ← ih, OdE.lt]
    by_cases h : Od.lt y x = true <;> simp [h]
theorem maxF_enc [Od α] {e : En α} [OdE e] : ∀ (xs : List α) (x : α), W.maxD (e x) (xs.map e) = e (maxF x xs)
  | [], x => rfl
  | y :: ys, x => by
    have ih := maxF_enc (e := e) ys
    unfold W.maxD maxF at *
    rw [List.map_cons, List.foldl_cons, List.foldl_cons, ← ih, OdE.lt]
    by_cases h : Od.lt x y = true <;> simp [h]
theorem alikeB_map [Od α] {e : En α} [OdE e] (xs : List α) : alikeB (xs.map e) = true := by
  unfold alikeB
  rw [Bool.and_eq_true]
  constructor
  · rw [List.all_eq_true]
    intro x hx
    rw [List.all_eq_true]
    intro y hy
    obtain ⟨a, _, rfl⟩ := List.mem_map.mp hx
    obtain ⟨b, _, rfl⟩ := List.mem_map.mp hy
    exact OdE.al a b
  · rw [List.all_eq_true]
    intro x hx
    obtain ⟨a, _, rfl⟩ := List.mem_map.mp hx
    rw [OdE.no]; rfl
theorem h_minAI : HL minA minO (eCons (eL eI) eNil) eI false := fun x z h => by
  have := h_minL x z h
  unfold minA
  rw [this]
theorem h_maxAI : HL maxA maxO (eCons (eL eI) eNil) eI false := fun x z h => by
  have := h_maxL x z h
  unfold maxA
  rw [this]
theorem intsOf_ni {e : En α} [NI e] (x : α) (xs : List T) : intsOf (e x :: xs) = none := by
  have := NI.ni (e := e) x
  cases h : e x <;> first | rfl | exact absurd h (this _)
theorem h_minXL [Od α] {e : En α} {n : Nat} [Dat e n] [OdE e] [NI e] (hn : n ≤ 19 := by decide) : HL minA minX (eCons (eL e) eNil) e false := fun x z h => by
  obtain ⟨xs, u⟩ := x
  cases xs with
  | nil => cases h
  | cons a r =>
    cases h
    have e1 : minT (eCons (eL e) eNil (a :: r, u)) = none := by
      show (match intsOf (e a :: r.map e) with | some ns => (minL ns).map fun m => Out.fz (.int m) | none => none) = none
      rw [intsOf_ni]
    unfold minA
    rw [e1]
    show (if okA 19 (e a :: r.map e) && alikeB (e a :: r.map e) then some (Out.fz (W.minD (e a) (r.map e))) else none) = _
    rw [show okA 19 (e a :: r.map e) = true from okA_map 19 hn (a :: r), show alikeB (e a :: r.map e) = true from alikeB_map (a :: r), minF_enc]; rfl
theorem h_maxXL [Od α] {e : En α} {n : Nat} [Dat e n] [OdE e] [NI e] (hn : n ≤ 19 := by decide) : HL maxA maxX (eCons (eL e) eNil) e false := fun x z h => by
  obtain ⟨xs, u⟩ := x
  cases xs with
  | nil => cases h
  | cons a r =>
    cases h
    have e1 : maxT (eCons (eL e) eNil (a :: r, u)) = none := by
      show (match intsOf (e a :: r.map e) with | some ns => (maxL ns).map fun m => Out.fz (.int m) | none => none) = none
      rw [intsOf_ni]
    unfold maxA
    rw [e1]
    show (if okA 19 (e a :: r.map e) && alikeB (e a :: r.map e) then some (Out.fz (W.maxD (e a) (r.map e))) else none) = _
    rw [show okA 19 (e a :: r.map e) = true from okA_map 19 hn (a :: r), show alikeB (e a :: r.map e) = true from alikeB_map (a :: r), maxF_enc]; rfl
/-- .. of a tuple: whole numbers too -/
theorem h_minXT [Od α] {e : En α} {n : Nat} [Dat e n] [OdE e] (hn : n ≤ 19 := by decide) : HL minA minX (eCons (eT e) eNil) e false := fun x z h => by
  obtain ⟨xs, u⟩ := x
  cases xs with
  | nil => cases h
  | cons a r =>
    cases h
    show (if okA 19 (e a :: r.map e) && alikeB (e a :: r.map e) then some (Out.fz (W.minD (e a) (r.map e))) else none) = _
    rw [show okA 19 (e a :: r.map e) = true from okA_map 19 hn (a :: r), show alikeB (e a :: r.map e) = true from alikeB_map (a :: r), minF_enc]; rfl
theorem h_maxXT [Od α] {e : En α} {n : Nat} [Dat e n] [OdE e] (hn : n ≤ 19 := by decide) : HL maxA maxX (eCons (eT e) eNil) e false := fun x z h => by
  obtain ⟨xs, u⟩ := x
  cases xs with
  | nil => cases h
  | cons a r =>
    cases h
    show (if okA 19 (e a :: r.map e) && alikeB (e a :: r.map e) then some (Out.fz (W.maxD (e a) (r.map e))) else none) = _
    rw [show okA 19 (e a :: r.map e) = true from okA_map 19 hn (a :: r), show alikeB (e a :: r.map e) = true from alikeB_map (a :: r), maxF_enc]; rfl
/-! sorted -/
def leB [Od α] (a b : α) : Bool := !Od.lt b a
def srt [Od α] (xs : List α) : List α := xs.mergeSort leB
def sortO [Od α] (a : List α × Unit) : Option (List α) := if a.1.length ≤ sizeLine then some (srt a.1) else none
theorem leB_tr [Od α] (a b c : α) (h : leB a b = true) (k : leB b c = true) : leB a c = true := by
  unfold leB at *
  simp only [Bool.not_eq_true'] at *
  cases e : Od.lt c a with
  | false => rfl
  | true =>
    by_cases h1 : Od.lt b c = true
    · have := Od.tr b c a h1 e
      rw [h] at this; cases this
    · have h1 : Od.lt b c = false := by simpa using h1
      have := Od.tri b c h1 k
      subst this
      rw [h] at e; cases e
theorem leB_tot [Od α] (a b : α) : (leB a b || leB b a) = true := by
  unfold leB
  cases h : Od.lt b a with
  | false => rfl
  | true => rw [Od.asy h]; rfl
theorem leB_anti [Od α] {a b : α} (h : leB a b = true) (k : leB b a = true) : a = b := by
  unfold leB at *
  simp only [Bool.not_eq_true'] at *
  exact Od.tri a b k h
theorem srt_perm [Od α] (xs : List α) : (srt xs).Perm xs := List.mergeSort_perm _ _
theorem srt_sorted [Od α] (xs : List α) : (srt xs).Pairwise fun a b => leB a b = true := List.pairwise_mergeSort (fun a b c => leB_tr a b c) leB_tot xs
theorem srt_uniq [Od α] {xs ys : List α} (p : xs.Perm ys) (s : xs.Pairwise fun a b => leB a b = true) (s' : ys.Pairwise fun a b => leB a b = true) : xs = ys :=
  p.eq_of_pairwise (fun _ _ _ _ h k => leB_anti h k) s s'
theorem srt_eq [Od α] {xs ys : List α} (p : xs.Perm ys) : srt xs = srt ys := srt_uniq ((srt_perm xs).trans (p.trans (srt_perm ys).symm)) (srt_sorted xs) (srt_sorted ys)
theorem srt_of [Od α] {xs ys : List α} (p : ys.Perm xs) (s : ys.Pairwise fun a b => leB a b = true) : srt xs = ys := srt_uniq ((srt_perm xs).trans p.symm) (srt_sorted xs) s
theorem mem_srt [Od α] {xs : List α} {a : α} : a ∈ srt xs ↔ a ∈ xs := (srt_perm xs).mem_iff
theorem length_srt [Od α] (xs : List α) : (srt xs).length = xs.length := (srt_perm xs).length_eq
class SortE (e : En α) : Prop where
  ok : (∀ a, nonEmptyTup (e a) = true) ∨ ∀ a, noTup (e a) = true
instance : SortE eI := ⟨.inr fun _ => rfl⟩
instance : SortE eS := ⟨.inr fun _ => rfl⟩
instance {e : En α} : SortE (eL e) := ⟨.inr fun _ => rfl⟩
instance {a : En α} : SortE (e1 a) := ⟨.inl fun _ => rfl⟩
instance {a : En α} {b : En β} : SortE (e2 a b) := ⟨.inl fun _ => rfl⟩
instance {a : En α} {b : En β} {c : En γ} : SortE (e3 a b c) := ⟨.inl fun _ => rfl⟩
instance {a : En α} {b : En β} {c : En γ} {d : En δ} : SortE (e4 a b c d) := ⟨.inl fun _ => rfl⟩
theorem sortT_map [Od α] {e : En α} [OdE e] (xs : List α) : sortT (xs.map e) = (srt xs).map e := by
  unfold sortT srt
  refine (List.map_mergeSort (r := leB) (s := W.dataLe false id) (f := e) fun a _ b _ => ?_).symm
  show leB a b = !W.dataLt (e b) (e a)
  rw [OdE.lt]; rfl
theorem sortOk_map [Od α] {e : En α} {n : Nat} [Dat e n] [OdE e] [SortE e] (hn : n ≤ 19) (xs : List α) : sortOk (xs.map e) = true := by
  unfold sortOk
  rw [okA_map 19 hn xs, Bool.true_and, Bool.and_eq_true]
  constructor
  · rw [List.all_eq_true]
    intro x hx
    rw [List.all_eq_true]
    intro y hy
    obtain ⟨a, _, rfl⟩ := List.mem_map.mp hx
    obtain ⟨b, _, rfl⟩ := List.mem_map.mp hy
    exact OdE.al a b
  · rw [Bool.or_eq_true]
    rcases SortE.ok (e := e) with h | h
    · refine .inl ?_
      rw [List.all_eq_true]
      intro x hx
      obtain ⟨a, _, rfl⟩ := List.mem_map.mp hx
      exact h a
    · refine .inr ?_
      rw [List.all_eq_true]
      intro x hx
      obtain ⟨a, _, rfl⟩ := List.mem_map.mp hx
      exact h a
theorem h_sortX [Od α] {e : En α} {n : Nat} [Dat e n] [OdE e] [SortE e] [NI e] (hn : n ≤ 19 := by decide) : HL sortedG sortO (eCons (eL e) eNil) (eL e) true := fun x z h => by
  obtain ⟨xs, u⟩ := x
  unfold sortO at h
  split at h
  · rename_i hl
    cases h
    cases xs with
    | nil =>
      have e1 : sortedA (eCons (eL e) eNil (([] : List α), u)) = some (.nw (.list [])) := rfl
      have e2 : srt ([] : List α) = [] := by simp [srt]
      unfold sortedG
      rw [e1]
      show _ = some (Out.nw (.list ((srt ([] : List α)).map e)))
      rw [e2]; rfl
    | cons a r =>
      have e1 : sortedA (eCons (eL e) eNil (a :: r, u)) = none := by
        show (match intsOf (e a :: r.map e) with | some ns => some (Out.nw (.list ((sortI ns).map PyData.int))) | none => none) = none
        rw [intsOf_ni]
      unfold sortedG
      rw [e1]
      show (if sortOk ((a :: r).map e) = true ∧ ((a :: r).map e).length ≤ sizeLine then some (Out.nw (.list (sortT ((a :: r).map e)))) else none) = _
      rw [if_pos ⟨sortOk_map hn (a :: r), by rw [List.length_map]; exact hl⟩, sortT_map]; rfl
  · cases h
theorem sortI_srt (ns : List Int) : sortI ns = srt ns := (srt_of (sortI_perm ns) ((sortI_sorted ns).imp fun {a b} h => by
  show (!decide (b < a)) = true
  simp; omega)).symm
def sortIO (a : List Int × Unit) : Option (List Int) := some (srt a.1)
theorem h_sortLI : HL sortedG sortIO (eCons (eL eI) eNil) (eL eI) true := fun x z h => by
  cases h
  unfold sortedG
  have e1 : sortedA (eCons (eL eI) eNil x) = some (.nw (.list ((sortI x.1).map PyData.int))) := by
    show (match intsOf (x.1.map eI) with | some ns => some (Out.nw (.list ((sortI ns).map PyData.int))) | none => none) = _
    rw [intsOf_enc]
  rw [e1, sortI_srt]; rfl
def sortTO (a : List Int × Unit) : Option (List Int) := if a.1.length < 64 then some (srt a.1) else none
theorem h_sortTI : HL sortedG sortTO (eCons (eT eI) eNil) (eL eI) true := fun x z h => by
  unfold sortTO at h
  split at h
  · rename_i hl
    cases h
    unfold sortedG
    have e1 : sortedA (eCons (eT eI) eNil x) = some (.nw (.list ((sortI x.1).map PyData.int))) := by
      show (if (x.1.map eI).length < 64 then match intsOf (x.1.map eI) with | some ns => some (Out.nw (.list ((sortI ns).map PyData.int))) | none => none else none) = _
      rw [List.length_map, if_pos hl, intsOf_enc]
    rw [e1, sortI_srt]; rfl
  · cases h
/-! count, index, remove -/
theorem eqv_place {e : En α} {n : Nat} [Dat e n] [DecidableEq α] (d : α) (xs : List α) : placeT (xs.map e) (e d) = xs.findIdx? fun y => decide (y = d) := by
  unfold placeT
  rw [List.findIdx?_map]
  congr 1
  funext y
  exact Dat.eqb y d
def cntO [DecidableEq α] (xs : List α) (a : α × Unit) : Option Int := some (xs.count a.1 : Nat)
theorem h_cntO {e : En α} {n : Nat} [Dat e n] [DecidableEq α] (hn : n ≤ 19 := by decide) : ∀ w a b, cntO w a = some b → cntT (eL e w) (eCons e eNil a) = some (mo false (eI b)) := fun w a b h => by
  cases h
  show (if okA 19 (w.map e) && okD 20 (e a.1) then some (Out.fz (.int (((w.map e).countP fun y => PyData.eqv y (e a.1) : Nat) : Int))) else none) = _
  rw [okA_map 19 hn w, Dat.ok (n := n) a.1 20 (by omega), List.countP_map]
  have : ((fun y => PyData.eqv y (e a.1)) ∘ e) = fun y => y == a.1 := by
    funext y
    show PyData.eqv (e y) (e a.1) = _
    rw [Dat.eqb]
    by_cases h : y = a.1 <;> simp [h]
  rw [this]
  rfl
def idxO [DecidableEq α] (xs : List α) (a : α × Unit) : Option Int := (xs.findIdx? fun y => decide (y = a.1)).map fun (j : Nat) => (j : Int)
theorem h_idxO {e : En α} {n : Nat} [Dat e n] [DecidableEq α] (hn : n ≤ 19 := by decide) : ∀ w a b, idxO w a = some b → idxT (eL e w) (eCons e eNil a) = some (mo false (eI b)) := fun w a b h => by
  obtain ⟨j, h1, rfl⟩ := Option.map_eq_some_iff.mp h
  show (if okA 19 (w.map e) && okD 20 (e a.1) then match placeT (w.map e) (e a.1) with | some j => some (Out.fz (.int (j : Nat))) | none => none else none) = _
  rw [okA_map 19 hn w, Dat.ok (n := n) a.1 20 (by omega), eqv_place, h1]; rfl
def remO [DecidableEq α] (xs : List α) (a : α × Unit) : Option (List α × Unit) := (xs.findIdx? fun y => decide (y = a.1)).map fun j => (xs.eraseIdx j, ())
theorem h_remO {e : En α} {n : Nat} [Dat e n] [DecidableEq α] (hn : n ≤ 19 := by decide) : ∀ w a w' b, remO w a = some (w', b) → remT (eL e w) (eCons e eNil a) = some (eL e w', eN b) := fun w a w' b h => by
  obtain ⟨j, h1, h⟩ := Option.map_eq_some_iff.mp h
  cases h
  show (if okA 19 (w.map e) && okD 20 (e a.1) then match placeT (w.map e) (e a.1) with | some j => some (PyData.list ((w.map e).eraseIdx j), PyData.none) | none => none else none) = _
  rw [okA_map 19 hn w, Dat.ok (n := n) a.1 20 (by omega), eqv_place, h1]
  simp only [Bool.and_self, if_true, map_eraseIdx']
  rfl
end
section
variable {S α β ω : Type} {V : S → Tab} {m mb mo' : ME} {ms : MA} {ew : En ω} {eb : En β} {aba abb : AE} {abs : AA} {p pa pb : Bool}
/-- a method that looks -/
def pBm (G : ω → α → Option β) (w : PX S ω) (a : PX S α) : PX S β := fun s => (w s).bind fun x => (a s).bind fun y => G x y
def abBm (a : AE) (b : AA) : AE := fun D => match a D with
  | some (D1, _) => match b D1 with
    | some (D2, _) => some (D2, .F)
    | none => none
  | none => none
theorem pl_bm {Fm : T → List T → Option Out} {G : List ω → α → Option β} {fw : PX S (List ω)} {fa : PX S α} {es : α → List T} (hG : ∀ w a b, G w a = some b → Fm (eL ew w) (es a) = some (TY.mo false (eb b))) (hw : PL V m fw (eL ew) aba) (ha : PA V ms fa es abs) :
    PL V (mBm Fm m ms) (pBm G fw fa) eb (abBm aba abs) := by
  intro D D' k hk s c z s' R hf
  obtain ⟨hf, rfl⟩ := pu_of hf
  unfold abBm at hk
  split at hk
  · rename_i D1 k1 h1
    split at hk
    · rename_i D2 q2 h2
      cases hk
      unfold pBm at hf
      obtain ⟨x, f1, hf⟩ := Option.bind_eq_some_iff.mp hf
      obtain ⟨y, f2, hf⟩ := Option.bind_eq_some_iff.mp hf
      obtain ⟨r, c1, e1, R1, K1, P1⟩ := hw D _ _ h1 s' c x s' R (by unfold pu; rw [f1]; rfl)
      obtain ⟨rs, c2, e2, R2, K2, Q2, P2⟩ := ha D1 _ _ h2 s' c1 y s' R1 (by unfold pu; rw [f2]; rfl)
      have p1 : TL.pk r c1 = some (.list (x.map ew)) := K1.pk
      have p2 : TL.pk r c2 = some (.list (x.map ew)) := K1.pk' (P2 rfl).2
      have g := hG _ _ _ hf
      exact ⟨_, c2, by unfold mBm; rw [e1]; simp only [p1, e2, p2, K2, show Fm (.list (x.map ew)) (es y) = _ from g]; rfl, R2, rfl, fun _ => ⟨rfl, (P1 rfl).2.trans (P2 rfl).2⟩⟩
    · cases hk
  · cases hk
/-! list(range(..)) -/
def rgL1 (n : Int) : Option (List Int) := if rgOk 0 n then some (rng 0 n) else none
def rgL2 (a b : Int) : Option (List Int) := if rgOk a b then some (rng a b) else none
def abRg1 (o : Bool) (a : AE) : AE := fun D => match a D with
  | some (D1, .F) => some (D1, ko o)
  | _ => none
theorem pl_rg1 {tp : Bool} {e : En (List Int)} (he : ∀ xs, e xs = if tp then .tuple (xs.map eI) else .list (xs.map eI)) {f : PX S Int} (h : PL V m f eI aba) : PL V (mRng1 tp m) (pUn rgL1 f) e (abRg1 (!tp) aba) := by
  intro D D' k hk s c z s' R hf
  obtain ⟨hf, rfl⟩ := pu_of hf
  unfold abRg1 at hk
  split at hk
  · rename_i D1 h1
    cases hk
    unfold pUn at hf
    obtain ⟨x, f1, hf⟩ := Option.bind_eq_some_iff.mp hf
    obtain ⟨r, c1, e1, R1, K1, P1⟩ := h D _ _ h1 s' c x s' R (by unfold pu; rw [f1]; rfl)
    cases K1
    unfold rgL1 at hf
    split at hf
    · rename_i hr
      cases hf
      have er := rng_enc 0 x
      cases tp with
      | false => exact ⟨.nw (.list ((rng 0 x).map eI)), c1, by unfold mRng1; rw [e1]; simp only [eI, mRgO, hr, if_true, Bool.false_eq_true, if_false]; rw [er], R1, by rw [he]; rfl, P1⟩
      | true => exact ⟨.fz (.tuple ((rng 0 x).map eI)), c1, by unfold mRng1; rw [e1]; simp only [eI, mRgO, hr, if_true]; rw [er], R1, by rw [he]; rfl, P1⟩
    · cases hf
  · cases hk
theorem pl_rng1L {f : PX S Int} (h : PL V m f eI aba) : PL V (mRng1 false m) (pUn rgL1 f) (eL eI) (abRg1 true aba) := pl_rg1 (tp := false) (fun _ => rfl) h
theorem pl_rng1T {f : PX S Int} (h : PL V m f eI aba) : PL V (mRng1 true m) (pUn rgL1 f) (eT eI) (abRg1 false aba) := pl_rg1 (tp := true) (fun _ => rfl) h
def abRg2 (o : Bool) (a b : AE) : AE := fun D => match a D with
  | some (D1, .F) => match b D1 with
    | some (D2, .F) => some (D2, ko o)
    | _ => none
  | _ => none
theorem pl_rg2 {tp : Bool} {e : En (List Int)} (he : ∀ xs, e xs = if tp then .tuple (xs.map eI) else .list (xs.map eI)) {f g : PX S Int} (h : PL V m f eI aba) (h' : PL V mb g eI abb) : PL V (mRng2 tp m mb) (pOp rgL2 f g) e (abRg2 (!tp) aba abb) := by
  intro D D' k hk s c z s' R hf
  obtain ⟨hf, rfl⟩ := pu_of hf
  unfold abRg2 at hk
  split at hk
  · rename_i D1 h1
    split at hk
    · rename_i D2 h2
      cases hk
      unfold pOp at hf
      obtain ⟨x, f1, hf⟩ := Option.bind_eq_some_iff.mp hf
      obtain ⟨y, f2, hf⟩ := Option.bind_eq_some_iff.mp hf
      obtain ⟨r, c1, e1, R1, K1, P1⟩ := h D _ _ h1 s' c x s' R (by unfold pu; rw [f1]; rfl)
      obtain ⟨r2, c2, e2, R2, K2, P2⟩ := h' D1 _ _ h2 s' c1 y s' R1 (by unfold pu; rw [f2]; rfl)
      cases K1; cases K2
      unfold rgL2 at hf
      split at hf
      · rename_i hr
        cases hf
        have er := rng_enc x y
        cases tp with
        | false => exact ⟨.nw (.list ((rng x y).map eI)), c2, by unfold mRng2; rw [e1]; simp only [eI, e2, mRgO, hr, if_true, Bool.false_eq_true, if_false]; rw [er], R2, by rw [he]; rfl, fun _ => ⟨rfl, (P1 rfl).2.trans (P2 rfl).2⟩⟩
        | true => exact ⟨.fz (.tuple ((rng x y).map eI)), c2, by unfold mRng2; rw [e1]; simp only [eI, e2, mRgO, hr, if_true]; rw [er], R2, by rw [he]; rfl, fun _ => ⟨rfl, (P1 rfl).2.trans (P2 rfl).2⟩⟩
      · cases hf
    · cases hk
  · cases hk
theorem pl_rng2L {f g : PX S Int} (h : PL V m f eI aba) (h' : PL V mb g eI abb) : PL V (mRng2 false m mb) (pOp rgL2 f g) (eL eI) (abRg2 true aba abb) := pl_rg2 (tp := false) (fun _ => rfl) h h'
theorem pl_rng2T {f g : PX S Int} (h : PL V m f eI aba) (h' : PL V mb g eI abb) : PL V (mRng2 true m mb) (pOp rgL2 f g) (eT eI) (abRg2 false aba abb) := pl_rg2 (tp := true) (fun _ => rfl) h h'
end
end TY
namespace TY
open PySem PySem.Spec L2 TL
section
variable {α β γ δ κ : Type} [DecidableEq κ]
/-! ### dicts -/
def lookD : List (κ × α) → κ → Option α
  | [], _ => none
  | (a, v) :: r, k => if a = k then some v else lookD r k
def putD (d : List (κ × α)) (k : κ) (v : α) : List (κ × α) := if (lookD d k).isSome then d.map fun p => if p.1 = k then (p.1, v) else p else d ++ [(k, v)]
def encD (e : En κ) (ev : En α) (d : List (κ × α)) : List (T × T) := d.map fun p => (e p.1, ev p.2)
class KeyE (e : En κ) : Prop where
  look : ∀ {α : Type} (ev : En α) (d : List (κ × α)) (k : κ), dFind (encD e ev d) (e k) = some ((lookD d k).map ev)
  put : ∀ {α : Type} (ev : En α) (d : List (κ × α)) (k : κ) (v : α), d.length < sizeLine → dPut (encD e ev d) (e k) (ev v) = some (encD e ev (putD d k v))
theorem kFind_enc {μ : Type} [DecidableEq μ] {g : T → Option μ} {f : κ → μ} {e : En κ} (ok : ∀ a, g (e a) = some (f a)) (inj : ∀ a b, f a = f b → a = b) (ev : En α) (k : κ) : ∀ d : List (κ × α), kFind g (f k) (encD e ev d) = (lookD d k).map ev
  | [] => rfl
  | (a, v) :: r => by
    show (if g (e a) = some (f k) then some (ev v) else kFind g (f k) (encD e ev r)) = (if a = k then some v else lookD r k).map ev
    rw [ok, kFind_enc ok inj ev k r]
    by_cases h : a = k
    · subst h; simp
    · rw [if_neg fun z => h (inj _ _ (Option.some.inj z)), if_neg h]
theorem kSet_enc {μ : Type} [DecidableEq μ] {g : T → Option μ} {f : κ → μ} {e : En κ} (ok : ∀ a, g (e a) = some (f a)) (inj : ∀ a b, f a = f b → a = b) (ev : En α) (k : κ) (v : α) : ∀ d : List (κ × α), kSet g (f k) (ev v) (encD e ev d) = encD e ev (d.map fun p => if p.1 = k then (p.1, v) else p)
  | [] => rfl
  | (a, w) :: r => by
    show (if g (e a) = some (f k) then (e a, ev v) else (e a, ev w)) :: kSet g (f k) (ev v) (encD e ev r) = _
    rw [ok, kSet_enc ok inj ev k v r]
    show _ = (e (if a = k then (a, v) else (a, w)).1, ev (if a = k then (a, v) else (a, w)).2) :: _
    by_cases h : a = k
    · subst h; rw [if_pos rfl, if_pos rfl]; rfl
    · rw [if_neg fun z => h (inj _ _ (Option.some.inj z)), if_neg h]; rfl
theorem kPut_enc {μ : Type} [DecidableEq μ] {g : T → Option μ} {f : κ → μ} {e : En κ} (ok : ∀ a, g (e a) = some (f a)) (inj : ∀ a b, f a = f b → a = b) (ev : En α) (k : κ) (v : α) (d : List (κ × α)) : kPut g (e k) (f k) (ev v) (encD e ev d) = encD e ev (putD d k v) := by
  unfold kPut putD
  rw [kFind_enc ok inj, Option.isSome_map, kSet_enc ok inj]
  split
  · rfl
  · unfold encD; rw [List.map_append]; rfl
class KeyS (e : En κ) where
  kk : κ → Key
  ok : ∀ a, kOf (e a) = some (kk a)
  inj : ∀ a b, kk a = kk b → a = b
class KeyT (e : En κ) where
  kt : κ → List Key
  ok : ∀ a, ktOf (e a) = some (kt a)
  no : ∀ a, kOf (e a) = none
  inj : ∀ a b, kt a = kt b → a = b
theorem allK {e : En κ} (h : ∀ a, isT (e a) = false) (ev : En α) (d : List (κ × α)) : ((encD e ev d).all fun p => !isT p.1) = true := by
  rw [List.all_eq_true]
  intro p hp
  obtain ⟨q, _, rfl⟩ := List.mem_map.mp hp
  show (!isT (e q.1)) = true
  rw [h]; rfl
theorem allT' {e : En κ} (h : ∀ a, isT (e a) = true) (ev : En α) (d : List (κ × α)) : ((encD e ev d).all fun p => isT p.1) = true := by
  rw [List.all_eq_true]
  intro p hp
  obtain ⟨q, _, rfl⟩ := List.mem_map.mp hp
  exact h _
theorem encD_length (e : En κ) (ev : En α) (d : List (κ × α)) : (encD e ev d).length = d.length := by unfold encD; rw [List.length_map]
instance {e : En κ} [K : KeyS e] : KeyE e := ⟨fun ev d k => by
  unfold dFind
  rw [K.ok]
  simp only [allK (fun a => kOf_not (K.ok a)) ev d, if_true, kFind_enc K.ok K.inj], fun ev d k v hl => by
  unfold dPut
  rw [K.ok]
  simp only [allK (fun a => kOf_not (K.ok a)) ev d, encD_length, hl, and_self, if_true, kPut_enc K.ok K.inj]⟩
instance {e : En κ} [K : KeyT e] : KeyE e := ⟨fun ev d k => by
  unfold dFind
  rw [K.no, K.ok]
  simp only [allT' (fun a => ktOf_is (K.ok a)) ev d, if_true, kFind_enc K.ok K.inj], fun ev d k v hl => by
  unfold dPut
  rw [K.no, K.ok]
  simp only [allT' (fun a => ktOf_is (K.ok a)) ev d, encD_length, hl, and_self, if_true, kPut_enc K.ok K.inj]⟩
instance : KeyS eI := ⟨fun n => .inl n, fun _ => rfl, fun a b h => by injection h⟩
instance : KeyS eS := ⟨fun s => .inr ⟨(s.map Fin.val).toArray⟩, fun _ => rfl, fun a b h => by
  injection h with h
  injection h with h
  exact tx_inj (by simpa using congrArg Array.toList h)⟩
end
section
variable {α β γ δ κ : Type} [DecidableEq α] [DecidableEq β] [DecidableEq γ]
theorem ksOf_map {e : En α} [K : KeyS e] : ∀ xs : List α, ksOf (xs.map e) = some (xs.map K.kk)
  | [] => rfl
  | x :: xs => by
    rw [List.map_cons, ksOf, K.ok, ksOf_map xs]; rfl
theorem map_inj' {f : α → κ} (h : ∀ a b, f a = f b → a = b) : ∀ xs ys : List α, xs.map f = ys.map f → xs = ys
  | [], [], _ => rfl
  | [], _ :: _, e => by cases e
  | _ :: _, [], e => by cases e
  | x :: xs, y :: ys, e => by
    rw [List.map_cons, List.map_cons] at e
    injection e with e1 e2
    rw [h _ _ e1, map_inj' h xs ys e2]
instance {e : En α} [K : KeyS e] : KeyT (eT e) := ⟨fun xs => xs.map K.kk, fun xs => ksOf_map xs, fun _ => rfl, fun a b h => map_inj' K.inj a b h⟩
instance {a : En α} [K : KeyS a] : KeyT (e1 a) := ⟨fun x => [K.kk x], fun x => by show ksOf [_] = _; simp only [ksOf, K.ok], fun _ => rfl, fun x y h => by injection h with h; exact K.inj _ _ h⟩
instance {a : En α} {b : En β} [K : KeyS a] [L : KeyS b] : KeyT (e2 a b) := ⟨fun x => [K.kk x.1, L.kk x.2], fun x => by show ksOf [_, _] = _; simp only [ksOf, K.ok, L.ok], fun _ => rfl, fun x y h => by
  injection h with h1 h; injection h with h2 h; exact Prod.ext (K.inj _ _ h1) (L.inj _ _ h2)⟩
instance {a : En α} {b : En β} {c : En γ} [K : KeyS a] [L : KeyS b] [M : KeyS c] : KeyT (e3 a b c) := ⟨fun x => [K.kk x.1, L.kk x.2.1, M.kk x.2.2], fun x => by show ksOf [_, _, _] = _; simp only [ksOf, K.ok, L.ok, M.ok], fun _ => rfl, fun x y h => by
  injection h with h1 h; injection h with h2 h; injection h with h3 h; exact Prod.ext (K.inj _ _ h1) (Prod.ext (L.inj _ _ h2) (M.inj _ _ h3))⟩
end
section
variable {α β γ δ κ : Type} [DecidableEq κ] {e : En κ} {ev : En α} [KeyE e]
def inD (k : κ) (d : List (κ × α)) : Option Bool := some (lookD d k).isSome
theorem h_inD : H2 inT inD e (eD e ev) eB false := fun x y z h => by
  cases h
  show (match dFind (encD e ev y) (e x) with | some o => some (Out.fz (.bool o.isSome)) | none => none) = _
  rw [KeyE.look]
  simp only [Option.isSome_map]
  rfl
def ninD (k : κ) (d : List (κ × α)) : Option Bool := some (!(lookD d k).isSome)
theorem h_ninD : H2 notInT ninD e (eD e ev) eB false := fun x y z h => by
  cases h
  show (match dFind (encD e ev y) (e x) with | some o => some (Out.fz (.bool (!o.isSome))) | none => none) = _
  rw [KeyE.look]
  simp only [Option.isSome_map]
  rfl
def atD (d : List (κ × α)) (k : κ) : Option α := lookD d k
theorem h_ixD : H2 ixT atD (eD e ev) e ev false := fun x y z h => by
  show (match dFind (encD e ev x) (e y) with | some (some t) => some (Out.fz t) | _ => none) = _
  rw [KeyE.look, show lookD x y = some z from h]
  rfl
def putDO (d : List (κ × α)) (k : κ) (v : α) : Option (List (κ × α)) := if d.length < sizeLine then some (putD d k v) else none
theorem h_putD : ∀ w k x w', putDO w k x = some w' → putT (eD e ev w) (e k) (ev x) = some (eD e ev w') := fun w k x w' h => by
  unfold putDO at h
  split at h
  · rename_i hl
    cases h
    show (match dPut (encD e ev w) (e k) (ev x) with | some kvs' => some (PyData.dict kvs') | none => none) = _
    rw [KeyE.put ev w k x hl]; rfl
  · cases h
theorem h_getD : ∀ w k a, atD w k = some a → getT (eD e ev w) (e k) = some (ev a) := fun w k a h => by
  show (match dFind (encD e ev w) (e k) with | some (some t) => some t | _ => none) = _
  rw [KeyE.look, show lookD w k = some a from h]; rfl
end
section
variable {S α κ : Type} [DecidableEq κ] {V : S → Tab} {m mk mx : ME} {e : En κ} {ev : En α} [KeyE e] {aba abb abc : AE}
theorem pl_dict0 {k : En κ} {e : En α} : PL V mDict0 (pC ([] : List (κ × α))) (eD k e) fun D => some (D, .N) := by
  intro D D' kd hk s c x s' R hf
  obtain ⟨h1, rfl⟩ := pu_of hf
  cases h1; cases hk
  exact ⟨.nw (.dict []), c, rfl, R, rfl, fun _ => ⟨rfl, .refl⟩⟩
def abG1 (a b : AE) : AE := fun D => match a D with
  | some (D1, _) => match b D1 with
    | some (D2, _) => some (D2, .F)
    | none => none
  | none => none
def getD1 (d : List (κ × α)) (k : κ) : Option (Option α) := some (lookD d k)
theorem pl_get1 {fd : PX S (List (κ × α))} {fk : PX S κ} (hd : PL V m fd (eD e ev) aba) (hk' : PL V mk fk e abb) : PL V (mGet1 m mk) (pOp getD1 fd fk) (eO ev) (abG1 aba abb) := by
  intro D D' kd hk s c z s' R hf
  obtain ⟨hf, rfl⟩ := pu_of hf
  unfold abG1 at hk
  split at hk
  · rename_i D1 k1 h1
    split at hk
    · rename_i D2 k2 h2
      cases hk
      unfold pOp at hf
      obtain ⟨x, f1, hf⟩ := Option.bind_eq_some_iff.mp hf
      obtain ⟨y, f2, hf⟩ := Option.bind_eq_some_iff.mp hf
      cases hf
      obtain ⟨r, c1, e1, R1, K1, P1⟩ := hd D _ _ h1 s' c x s' R (by unfold pu; rw [f1]; rfl)
      obtain ⟨r2, c2, e2, R2, K2, P2⟩ := hk' D1 _ _ h2 s' c1 y s' R1 (by unfold pu; rw [f2]; rfl)
      have p1 : TL.pk r c1 = some (.dict (encD e ev x)) := K1.pk
      have p2 : TL.pk r c2 = some (.dict (encD e ev x)) := K1.pk' (P2 rfl).2
      have g := KeyE.look (e := e) ev x y
      refine ⟨.fz (eO ev (lookD x y)), c2, ?_, R2, rfl, fun _ => ⟨rfl, (P1 rfl).2.trans (P2 rfl).2⟩⟩
      unfold mGet1
      rw [e1]
      simp only [p1, e2, p2, K2.pk, g]
      cases lookD x y <;> rfl
    · cases hk
  · cases hk
def pGet (fd : PX S (List (κ × α))) (fk : PX S κ) (fx : PX S α) : PX S α := fun s => (fd s).bind fun d => (fk s).bind fun k => (fx s).map fun x => (lookD d k).getD x
def abG2 (a b c : AE) : AE := fun D => match a D with
  | some (D1, _) => match b D1 with
    | some (D2, _) => match abFz c D2 with
      | some (D3, _) => some (D3, .F)
      | none => none
    | none => none
  | none => none
theorem pl_get2 {fd : PX S (List (κ × α))} {fk : PX S κ} {fx : PX S α} (hd : PL V m fd (eD e ev) aba) (hk' : PL V mk fk e abb) (hx : PL V mx fx ev abc) : PL V (mGet2 m mk mx) (pGet fd fk fx) ev (abG2 aba abb abc) := by
  intro D D' kd hk s c z s' R hf
  obtain ⟨hf, rfl⟩ := pu_of hf
  unfold abG2 at hk
  split at hk
  · rename_i D1 k1 h1
    split at hk
    · rename_i D2 k2 h2
      split at hk
      · rename_i D3 k3 h3
        cases hk
        unfold pGet at hf
        obtain ⟨x, f1, hf⟩ := Option.bind_eq_some_iff.mp hf
        obtain ⟨y, f2, hf⟩ := Option.bind_eq_some_iff.mp hf
        obtain ⟨w, f3, hf⟩ := Option.map_eq_some_iff.mp hf
        cases hf
        obtain ⟨r, c1, e1, R1, K1, P1⟩ := hd D _ _ h1 s' c x s' R (by unfold pu; rw [f1]; rfl)
        obtain ⟨r2, c2, e2, R2, K2, P2⟩ := hk' D1 _ _ h2 s' c1 y s' R1 (by unfold pu; rw [f2]; rfl)
        obtain ⟨r3, c3, e3, R3, K3, P3⟩ := le_Fz hx D2 _ _ h3 s' c2 w s' R2 (by unfold pu; rw [f3]; rfl)
        have kF : k3 = .F := by
          unfold abFz at h3
          split at h3
          · split at h3
            · cases h3; rfl
            · cases h3
          · cases h3
        subst kF
        cases K3
        have p1 : TL.pk r c1 = some (.dict (encD e ev x)) := K1.pk
        have p2 : TL.pk r c3 = some (.dict (encD e ev x)) := K1.pk' ((P2 rfl).2.trans (P3 rfl).2)
        have g := KeyE.look (e := e) ev x y
        refine ⟨.fz (ev ((lookD x y).getD w)), c3, ?_, R3, rfl, fun _ => ⟨rfl, ((P1 rfl).2.trans (P2 rfl).2).trans (P3 rfl).2⟩⟩
        unfold mGet2
        rw [e1]
        simp only [p1, e2, e3, p2, K2.pk' (P3 rfl).2, g]
        cases lookD x y <;> rfl
      · cases hk
    · cases hk
  · cases hk
end
end TY
namespace TY
open PySem PySem.Spec L2 TL
section
variable {S α β γ δ R : Type}
variable {V : S → Tab} {m ma mb mc md : ME} {mt : MT} {g : MG} {er : En R} {ea : En α} {eb : En β} {eg : En γ} {ed : En δ} {fa : IX S α} {fb : IX S β} {fc : IX S γ} {fd : IX S δ} {aba abb abc abd : AE} {abt abg : AT} {pa pb pc pd : Bool} {i v j v' l v'' n v3 : Nat} {own ws : List Nat}
theorem lcO_run {set : α → S → S} {ft : PX S Bool} {fe : PX S β} (hg : LG V g set ea abg ws) (ht : PT V mt ft abt) (he : PL V m fe eb aba) (hw : ∀ j ∈ ws, j ∈ own) {H Da Db Dd De : List Dc} {kd : Kd}
    (ha : abg H = some Da) (hb : abt Da = some Db) (hd : aba Db = some (Dd, kd)) (hde : frzD kd Dd = some De) (o1 : leDs (wipeD Db own) H = true) (o2 : leDs (wipeD De own) H = true) (s' : S) :
    ∀ (xs : List α) (ys : List β) (cw : Cs), Rep (V s') H cw → lcO (fun x => ft (set x s')) (fun x => fe (set x s')) xs = some ys → ∃ c2, mLcL own g mt m (xs.map ea) cw = some (ys.map eb, c2) ∧ Rep (V s') H c2 ∧ FrO own cw c2 := by
  intro xs
  induction xs with
  | nil =>
    intro ys cw Rw e
    cases e
    exact ⟨cw, rfl, Rw, rfl, fun i _ x e => .inl e⟩
  | cons x xs ih =>
    intro ys cw Rw e
    rw [lcO] at e
    obtain ⟨b, fb, e⟩ := Option.bind_eq_some_iff.mp e
    obtain ⟨ca, ea1, Ra, fra⟩ := hg H Da ha s' cw x Rw
    obtain ⟨cb, eb1, Rb, Pb⟩ := ht Da Db hb _ ca b _ Ra (by unfold pu; rw [fb]; rfl)
    have fr1 : FrO own cw ca := .off (by rw [Ra.1, Rw.1]; have := (hg H Da ha s' cw x Rw); have l2 := hg H Da ha s' cw x Rw; obtain ⟨c9, e9, R9, _⟩ := l2; rw [ea1] at e9; cases e9; exact (by
      have q1 := leDs_len o1
      rw [wipeD_length] at q1
      have q2 : Db.length = Da.length := by rw [← Rb.1, (Pb rfl).2.1, Ra.1]
      omega)) fun j hj => (fra j fun z => hj (hw j z)).1
    have fr2 : FrO own ca cb := .of (Pb rfl).2
    have off : ∀ j, j ∉ own → acc (V s') j = acc (V (set x s')) j := fun j hj => ((fra j fun z => hj (hw j z)).2).symm
    cases b with
    | false =>
      simp only [Bool.false_eq_true, if_false] at e
      obtain ⟨c2, e2, R2, F2⟩ := ih ys _ ((Rb.wipe' off).le o1) e
      exact ⟨c2, by rw [List.map_cons, mLcL]; simp only [ea1, eb1]; exact e2, R2, ((fr1.trans fr2).trans .wipe).trans F2⟩
    | true =>
      simp only [if_true] at e
      obtain ⟨y, fy, e⟩ := Option.bind_eq_some_iff.mp e
      obtain ⟨zs, fz, e⟩ := Option.map_eq_some_iff.mp e
      cases e
      obtain ⟨r, cd, ed1, Rd, Kd, Pd⟩ := he Db _ _ hd _ cb y _ Rb (by unfold pu; rw [fy]; rfl)
      obtain ⟨ce, ee, Re, Fe⟩ := frz_ok Kd Rd hde
      obtain ⟨c2, e2, R2, F2⟩ := ih zs _ ((Re.wipe' off).le o2) fz
      exact ⟨c2, by rw [List.map_cons, mLcL]; simp only [ea1, eb1, ed1, ee, e2, List.map_cons], R2, ((((fr1.trans fr2).trans (.of (Pd rfl).2)).trans (.of Fe)).trans .wipe).trans F2⟩

def abLcH (i v : Nat) (own : List Nat) (abg abt : AT) (abe : AE) : AE := fun D => match D[i]? with
  | some (.O w) => if w = v ∧ i ∉ own then match headD (lcStep own abg abt abe) (wipeD (D.set i .X) own) with
      | some H => some ((restD (D.set i .X) own H).set i (.O v), .N)
      | none => none
    else none
  | some (.F _) => abLc own (abSq (abV i v)) abg abt abe D
  | _ => none
theorem pl_lcH {get : S → List α} {set : α → S → S} {ft : PX S Bool} {fe : PX S β} (hgt : ∀ s, acc (V s) i v = eL ea (get s)) (hg : LG V g set ea abg ws) (ht : PT V mt ft abt) (he : PL V m fe eb aba) (hw : ∀ j ∈ ws, j ∈ own) :
    PL V (mLcH i own g mt m) (pLc (pV get) set ft fe) (eL eb) (abLcH i v own abg abt aba) := by
  intro D D' k hk s c ys s' R hf
  unfold abLcH at hk
  split at hk
  · rename_i w hdi
    split at hk
    · rename_i hio
      obtain ⟨hwv, hio⟩ := hio
      subst hwv
      split at hk
      · rename_i H hh
        cases hk
        obtain ⟨hf, rfl⟩ := pu_of hf
        have hf : (if (get s').length ≤ sizeLine then lcO (fun x => ft (set x s')) (fun x => fe (set x s')) (get s') else none) = some ys := hf
        split at hf
        · rename_i hlen
          obtain ⟨x, ec, ox⟩ := R.at hdi
          cases ox
          rw [hgt] at ec
          have hi := lt_of_getD hdi
          have Rh : Rep (V s') (D.set i .X) (c.set i .un) := R.set hi (fun u z => by cases z) fun _ _ => rfl
          obtain ⟨hle, outs, hs, ho⟩ := headD_ok hh
          have hl1 : (D.set i .X).length = H.length := by rw [leDs_len hle, wipeD_length]
          unfold lcStep at hs
          split at hs
          · rename_i Da ha
            split at hs
            · rename_i Db hb
              split at hs
              · rename_i Dd kd hd
                split at hs
                · rename_i De hde
                  cases hs
                  have o1 := ho _ List.mem_cons_self
                  have o2 := ho _ (List.mem_cons_of_mem _ List.mem_cons_self)
                  obtain ⟨c2, e2, R2, F2⟩ := lcO_run hg ht he hw ha hb hd hde o1 o2 s' (get s') ys _ ((Rh.wipe own).le hle) hf
                  have Rr := Rh.rest R2 hl1 own
                  have hi2 : i < (restD (D.set i .X) own H).length := by rw [restD_length, ← hl1, List.length_set]; exact hi
                  refine ⟨.nw (.list (ys.map eb)), (restC (c.set i .un) own c2).set i (.ow (eL ea (get s'))), ?_, Rr.set hi2 (by show _ = _; rw [hgt]) fun _ _ => rfl, rfl, fun _ => ⟨rfl, by rw [List.length_set, restC_length, R2.1, ← hl1, List.length_set, R.1], fun q x e => ?_⟩⟩
                  · unfold mLcH
                    rw [ec]
                    show (if ((get s').map ea).length ≤ sizeLine ∧ i ∉ own then _ else _) = _
                    rw [if_pos ⟨by rw [List.length_map]; exact hlen, hio⟩, e2]
                    rfl
                  · by_cases ne : q = i
                    · subst ne
                      rw [ec] at e; cases e
                      exact .inl (set_at (by rw [restC_length, R2.1, ← hl1, List.length_set]; exact hi))
                    · rw [set_off ne]
                      have e' : (c.set i .un)[q]? = some x := by rw [set_off ne]; exact e
                      by_cases hq : q ∈ own
                      · rw [restC_in (by rw [R2.1, Rh.1, hl1]) hq]; exact .inl e'
                      · rw [restC_out hq]
                        exact (FrO.wipe.trans F2).2 q hq x e'
                · cases hs
              · cases hs
            · cases hs
          · cases hs
        · cases hf
      · cases hk
    · cases hk
  · rename_i w hdi
    obtain ⟨x, ec, ox⟩ := R.at hdi
    cases ox
    have e0 : mLcH i own g mt m c = mLc own (iSeq (mV i)) g mt m c := by unfold mLcH; rw [ec]
    have := pl_lc (own := own) (fe := fe) (ft := ft) (set := set) (li_seqL (pl_V hgt)) hg ht he hw D D' k hk s c ys s' R hf
    rw [e0]
    exact this
  · cases hk
/-! four names at once -/
def tPar4 (set : α → S → S) (set' : β → S → S) (set'' : γ → S → S) (set3 : δ → S → S) (fa : IX S α) (fb : IX S β) (fc : IX S γ) (fd : IX S δ) : SX S R := fun s => (fa s).bind fun a => (fb a.2).bind fun b => (fc b.2).bind fun c => (fd c.2).map fun d => (.nx, set3 d.1 (set'' c.1 (set' b.1 (set a.1 d.2))))
def xPar4 (i v j v' l v'' n v3 : Nat) (a b c d : AE) : AS := fun D => match keepD a D with
  | some (D1, k1) => match keepD b D1 with
    | some (D2, k2) => match keepD c D2 with
      | some (D3, k3) => match keepD d D3 with
        | some (D4, k4) => if k1.val && (k2.val && (k3.val && k4.val)) then match storeD k1 i v D4 with
            | some D5 => match storeD k2 j v' D5 with
              | some D6 => match storeD k3 l v'' D6 with
                | some D7 => match storeD k4 n v3 D7 with
                  | some D8 => some (nxD D8)
                  | none => none
                | none => none
              | none => none
            | none => none
          else none
        | none => none
      | none => none
    | none => none
  | none => none
theorem ls_par4 {set : α → S → S} {set' : β → S → S} {set'' : γ → S → S} {set3 : δ → S → S} (hs : SetS V i v ea set) (hs' : SetS V j v' eb set') (hs'' : SetS V l v'' eg set'') (hs3 : SetS V n v3 ed set3) (ha : LE V ma fa ea aba pa) (hb : LE V mb fb eb abb pb) (hc : LE V mc fc eg abc pc) (hd : LE V md fd ed abd pd) : LS V (sPar4 i j l n ma mb mc md) (tPar4 set set' set'' set3 fa fb fc fd : SX S R) er (xPar4 i v j v' l v'' n v3 aba abb abc abd) := by
  intro D sd hk s c fl s' Rp hf
  unfold xPar4 at hk
  split at hk
  · rename_i D1 k1 h1
    split at hk
    · rename_i D2 k2 h2
      split at hk
      · rename_i D3 k3 h3
        split at hk
        · rename_i D4 k4 h4
          split at hk
          · rename_i hv
            obtain ⟨v1, hv⟩ := Bool.and_eq_true _ _ |>.mp hv
            obtain ⟨v2, hv⟩ := Bool.and_eq_true _ _ |>.mp hv
            obtain ⟨v3, v4⟩ := Bool.and_eq_true _ _ |>.mp hv
            split at hk
            · rename_i D5 h5
              split at hk
              · rename_i D6 h6
                split at hk
                · rename_i D7 h7
                  split at hk
                  · rename_i D8 h8
                    cases hk
                    unfold tPar4 at hf
                    obtain ⟨⟨x, s1⟩, f1, hf⟩ := Option.bind_eq_some_iff.mp hf
                    obtain ⟨⟨y, s2⟩, f2, hf⟩ := Option.bind_eq_some_iff.mp hf
                    obtain ⟨⟨z, s3⟩, f3, hf⟩ := Option.bind_eq_some_iff.mp hf
                    obtain ⟨⟨u, s4⟩, f4, hf⟩ := Option.map_eq_some_iff.mp hf
                    cases hf
                    obtain ⟨ra, c1, e1, R1, K1, P1⟩ := le_keep ha D _ _ h1 s c x s1 Rp f1
                    obtain ⟨rb, c2, e2, R2, K2, P2⟩ := le_keep hb D1 _ _ h2 s1 c1 y s2 R1 f2
                    obtain ⟨rc, c3, e3, R3, K3, P3⟩ := le_keep hc D2 _ _ h3 s2 c2 z s3 R2 f3
                    obtain ⟨rd, c4, e4, R4, K4, P4⟩ := le_keep hd D3 _ _ h4 s3 c3 u s4 R3 f4
                    obtain ⟨c5, e5, R5⟩ := store_ok (K1.any v1) R4 h5 (hs x s4)
                    obtain ⟨c6, e6, R6⟩ := store_ok (K2.any v2) R5 h6 (hs' y _)
                    obtain ⟨c7, e7, R7⟩ := store_ok (K3.any v3) R6 h7 (hs'' z _)
                    obtain ⟨c8, e8, R8⟩ := store_ok (K4.any v4) R7 h8 (hs3 u _)
                    rw [← put1_setR (K1.vw v1)] at e5
                    rw [← put1_setR (K2.vw v2)] at e6
                    rw [← put1_setR (K3.vw v3)] at e7
                    rw [← put1_setR (K4.vw v4)] at e8
                    exact ⟨.nx, c8, by unfold sPar4; rw [e1]; simp only [e2, e3, e4, e5, e6, e7, e8], rfl, D8, rfl, R8⟩
                  · cases hk
                · cases hk
              · cases hk
            · cases hk
          · cases hk
        · cases hk
      · cases hk
    · cases hk
  · cases hk
end
end TY
namespace TY
open PySem PySem.Spec L2 TL
section
variable {S α β : Type} {V : S → Tab} {m : ME} {mt : MT} {g : MG} {ea : En α} {eb : En β} {aba : AE} {abt abg : AT} {i v : Nat} {own ws : List Nat}
/-- over a name that holds no own list -/
def abLcN (i : Nat) (own : List Nat) (abi abg abt : AT) (abe : AE) : AE := fun D => match D[i]? with
  | some (.F _) => abLc own abi abg abt abe D
  | _ => none
theorem pl_lcHT {it : PX S (List α)} {set : α → S → S} {ft : PX S Bool} {fe : PX S β} {abi : AT} (hi : PI V (iSeq (mV i)) it ea abi) (hg : LG V g set ea abg ws) (ht : PT V mt ft abt) (he : PL V m fe eb aba) (hw : ∀ j ∈ ws, j ∈ own) :
    PL V (mLcH i own g mt m) (pLc it set ft fe) (eL eb) (abLcN i own abi abg abt aba) := by
  intro D D' k hk s c ys s' R hf
  unfold abLcN at hk
  split at hk
  · rename_i w hdi
    obtain ⟨x, ec, ox⟩ := R.at hdi
    cases ox
    have e0 : mLcH i own g mt m c = mLc own (iSeq (mV i)) g mt m c := by unfold mLcH; rw [ec]
    rw [e0]
    exact pl_lc (own := own) hi hg ht he hw D D' k hk s c ys s' R hf
  · cases hk
end
end TY
namespace TY
open PySem PySem.Spec TL
open L2 (ixN)
section
variable {S α β γ δ ω R : Type}
/-! ### the plain side: what a typed text gives -/
def Pw (o : Option α) (Q : α → Prop) : Prop := ∃ a, o = some a ∧ Q a
def Ew (o : Option (α × S)) (Q : α → S → Prop) : Prop := ∃ a s, o = some (a, s) ∧ Q a s
def TW (o : Option (Fw R × S)) (Q : Fw R → S → Prop) : Prop := ∃ fl s, o = some (fl, s) ∧ Q fl s
def Nxt (n : S → Prop) (Q : Fw R → S → Prop) : Fw R → S → Prop := fun fl s => match fl with
  | .nx => n s
  | .bk => Q .bk s
  | .ct => Q .ct s
  | .rt r => Q (.rt r) s
def Lpt (n : S → Prop) (Q : Fw R → S → Prop) : Fw R → S → Prop := fun fl s => match fl with
  | .nx => n s
  | .ct => n s
  | .bk => Q .nx s
  | .rt r => Q (.rt r) s
variable {Q : Fw R → S → Prop} {QE : α → S → Prop} {QP : α → Prop} {s : S}
theorem nxt_nx {n : S → Prop} : Nxt n Q .nx s ↔ n s := Iff.rfl
theorem nxt_bk {n : S → Prop} : Nxt n Q .bk s ↔ Q .bk s := Iff.rfl
theorem nxt_ct {n : S → Prop} : Nxt n Q .ct s ↔ Q .ct s := Iff.rfl
theorem nxt_rt {n : S → Prop} {r : R} : Nxt n Q (.rt r) s ↔ Q (.rt r) s := Iff.rfl
theorem lpt_nx {n : S → Prop} : Lpt n Q .nx s ↔ n s := Iff.rfl
theorem lpt_ct {n : S → Prop} : Lpt n Q .ct s ↔ n s := Iff.rfl
theorem lpt_bk {n : S → Prop} : Lpt n Q .bk s ↔ Q .nx s := Iff.rfl
theorem lpt_rt {n : S → Prop} {r : R} : Lpt n Q (.rt r) s ↔ Q (.rt r) s := Iff.rfl
theorem pw_some {a : α} : Pw (some a) QP ↔ QP a := ⟨fun ⟨_, e, q⟩ => by cases e; exact q, fun q => ⟨a, rfl, q⟩⟩
theorem pw_of {o : Option α} {a : α} (e : o = some a) (q : QP a) : Pw o QP := ⟨a, e, q⟩
theorem Pw.eq {o : Option α} {a : α} (h : Pw o fun x => x = a) : o = some a := by obtain ⟨x, e, rfl⟩ := h; exact e
theorem pw_bind {o : Option β} {f : β → Option α} : Pw (o.bind f) QP ↔ Pw o fun b => Pw (f b) QP := by
  cases o with
  | none => exact ⟨fun ⟨_, e, _⟩ => (nomatch e), fun ⟨_, e, _⟩ => (nomatch e)⟩
  | some b => exact (pw_some (QP := fun b => Pw (f b) QP)).symm
theorem pw_map {o : Option β} {f : β → α} : Pw (o.map f) QP ↔ Pw o fun b => QP (f b) := by
  cases o with
  | none => exact ⟨fun ⟨_, e, _⟩ => (nomatch e), fun ⟨_, e, _⟩ => (nomatch e)⟩
  | some b => exact pw_some.trans (pw_some (QP := fun b => QP (f b))).symm
theorem pw_ite {c : Prop} [Decidable c] {a : α} : Pw (if c then some a else none) QP ↔ c ∧ QP a := by
  by_cases h : c
  · rw [if_pos h]; exact pw_some.trans ⟨fun q => ⟨h, q⟩, fun q => q.2⟩
  · rw [if_neg h]; exact ⟨fun ⟨_, e, _⟩ => (nomatch e), fun q => absurd q.1 h⟩
theorem Pw.mono {o : Option α} {Q Q' : α → Prop} (h : Pw o Q) (k : ∀ a, Q a → Q' a) : Pw o Q' := by
  obtain ⟨a, e, q⟩ := h; exact ⟨a, e, k a q⟩
theorem ew_pu {f : PX S α} : Ew (pu f s) QE ↔ Pw (f s) fun a => QE a s := by
  unfold pu
  cases f s with
  | none => exact ⟨fun ⟨_, _, e, _⟩ => (nomatch e), fun ⟨_, e, _⟩ => (nomatch e)⟩
  | some b => exact ⟨fun ⟨_, _, e, q⟩ => by cases e; exact ⟨_, rfl, q⟩, fun ⟨_, e, q⟩ => by cases e; exact ⟨_, _, rfl, q⟩⟩
theorem ew_some {a : α} {s' : S} : Ew (some (a, s')) QE ↔ QE a s' := ⟨fun ⟨_, _, e, q⟩ => by cases e; exact q, fun q => ⟨a, s', rfl, q⟩⟩
theorem ew_bind {T' : Type} {o : Option (β × T')} {f : β × T' → Option (α × S)} : Ew (o.bind f) QE ↔ Ew o fun b t => Ew (f (b, t)) QE := by
  cases o with
  | none => exact ⟨fun ⟨_, _, e, _⟩ => (nomatch e), fun ⟨_, _, e, _⟩ => (nomatch e)⟩
  | some b => exact (ew_some (QE := fun b t => Ew (f (b, t)) QE)).symm
theorem ew_map {T' : Type} {o : Option (β × T')} {f : β × T' → α × S} : Ew (o.map f) QE ↔ Ew o fun b t => QE (f (b, t)).1 (f (b, t)).2 := by
  cases o with
  | none => exact ⟨fun ⟨_, _, e, _⟩ => (nomatch e), fun ⟨_, _, e, _⟩ => (nomatch e)⟩
  | some b => exact ew_some.trans (ew_some (QE := fun b t => QE (f (b, t)).1 (f (b, t)).2)).symm
theorem ew_pmap {o : Option β} {f : β → α × S} : Ew (o.map f) QE ↔ Pw o fun b => QE (f b).1 (f b).2 := by
  cases o with
  | none => exact ⟨fun ⟨_, _, e, _⟩ => (nomatch e), fun ⟨_, e, _⟩ => (nomatch e)⟩
  | some b => exact ew_some.trans (pw_some (QP := fun b => QE (f b).1 (f b).2)).symm
theorem tw_some {fl : Fw R} : TW (some (fl, s)) Q ↔ Q fl s := ew_some
theorem TW.mono {o : Option (Fw R × S)} {Q Q' : Fw R → S → Prop} (h : TW o Q) (k : ∀ fl s, Q fl s → Q' fl s) : TW o Q' := by
  obtain ⟨a, s, e, q⟩ := h; exact ⟨a, s, e, k a s q⟩
/-! expressions -/
theorem pw_C {a : α} : Pw (pC a s) QP ↔ QP a := pw_some
theorem pw_V {g : S → α} : Pw (pV g s) QP ↔ QP (g s) := pw_some
theorem pw_op {F : β → γ → Option α} {a : PX S β} {b : PX S γ} : Pw (pOp F a b s) QP ↔ Pw (a s) fun x => Pw (b s) fun y => Pw (F x y) QP := by unfold pOp; rw [pw_bind]; simp only [pw_bind]
theorem pw_un {F : β → Option α} {a : PX S β} : Pw (pUn F a s) QP ↔ Pw (a s) fun x => Pw (F x) QP := by unfold pUn; rw [pw_bind]
theorem pw_ch {QB : Bool → Prop} {F : β → γ → Option Bool} {F' : γ → δ → Option Bool} {a : PX S β} {b : PX S γ} {c : PX S δ} : Pw (pCh F F' a b c s) QB ↔ Pw (a s) fun x => Pw (b s) fun y => Pw (F x y) fun t => if t = true then Pw (c s) fun z => Pw (F' y z) QB else QB false := by
  unfold pCh
  rw [pw_bind]; simp only [pw_bind]
  constructor
  · refine fun h => h.mono fun x h => h.mono fun y h => h.mono fun t h => ?_
    cases t with
    | true => exact pw_bind.mp h
    | false => exact (pw_some (QP := QB)).mp h
  · refine fun h => h.mono fun x h => h.mono fun y h => h.mono fun t h => ?_
    cases t with
    | true => exact pw_bind.mpr h
    | false => exact (pw_some (QP := QB)).mpr h
theorem pw_not {QB : Bool → Prop} {a : PX S Bool} : Pw (pNot a s) QB ↔ Pw (a s) fun x => QB !x := by unfold pNot; rw [pw_map]
theorem pw_bif {o p : Option α} {x : Bool} : Pw (if x = true then o else p) QP ↔ if x = true then Pw o QP else Pw p QP := by cases x <;> exact Iff.rfl
theorem pw_and {QB : Bool → Prop} {a b : PX S Bool} : Pw (pAnd a b s) QB ↔ Pw (a s) fun x => if x = true then Pw (b s) QB else QB false := by
  unfold pAnd; rw [pw_bind]; simp only [pw_bif, pw_some]
theorem pw_or {QB : Bool → Prop} {a b : PX S Bool} : Pw (pOr a b s) QB ↔ Pw (a s) fun x => if x = true then QB true else Pw (b s) QB := by
  unfold pOr; rw [pw_bind]; simp only [pw_bif, pw_some]
theorem pw_if {c : PX S Bool} {a b : PX S α} : Pw (pIf c a b s) QP ↔ Pw (c s) fun x => if x = true then Pw (a s) QP else Pw (b s) QP := by
  unfold pIf; rw [pw_bind]; simp only [pw_bif]
theorem pw_nil {QU : Unit → Prop} : Pw (pNil s) QU ↔ QU () := pw_some
theorem pw_cons {QC : β × γ → Prop} {a : PX S β} {b : PX S γ} : Pw (pCons a b s) QC ↔ Pw (a s) fun x => Pw (b s) fun y => QC (x, y) := by unfold pCons; rw [pw_bind]; simp only [pw_map]
theorem pw_Map {g : β → α} {a : PX S β} : Pw (pMap g a s) QP ↔ Pw (a s) fun x => QP (g x) := by unfold pMap; rw [pw_map]
theorem pw_lc {QL : List β → Prop} {it : PX S (List α)} {set : α → S → S} {c : PX S Bool} {e : PX S β} : Pw (pLc it set c e s) QL ↔ Pw (it s) fun xs => xs.length ≤ sizeLine ∧ Pw (lcO (fun x => c (set x s)) (fun x => e (set x s)) xs) QL := by
  unfold pLc
  rw [pw_bind]
  constructor
  · refine fun h => h.mono fun xs h => ?_
    split at h
    · rename_i hl; exact ⟨hl, h⟩
    · obtain ⟨_, e, _⟩ := h; cases e
  · refine fun h => h.mono fun xs h => ?_
    rw [if_pos h.1]; exact h.2
theorem pw_sl {QL : List α → Prop} {a : PX S (List α)} {lo hi : Option (PX S Int)} : Pw (pSl a lo hi s) QL ↔ Pw (a s) fun x => Pw (pPart lo s) fun l => Pw (pPart hi s) fun h => QL (cutL x l h) := by
  unfold pSl; rw [pw_bind]; simp only [pw_bind, pw_map]
theorem pw_part0 {QL : Option Int → Prop} : Pw (pPart none s) QL ↔ QL none := pw_some
theorem pw_part1 {QL : Option Int → Prop} {f : PX S Int} : Pw (pPart (some f) s) QL ↔ Pw (f s) fun x => QL (some x) := by unfold pPart; rw [pw_map]
theorem pw_bm {G : ω → α → Option β} {QB : β → Prop} {w : PX S ω} {a : PX S α} : Pw (pBm G w a s) QB ↔ Pw (w s) fun x => Pw (a s) fun y => Pw (G x y) QB := by unfold pBm; rw [pw_bind]; simp only [pw_bind]
theorem pw_get {κ : Type} [DecidableEq κ] {fd : PX S (List (κ × α))} {fk : PX S κ} {fx : PX S α} : Pw (pGet fd fk fx s) QP ↔ Pw (fd s) fun d => Pw (fk s) fun k => Pw (fx s) fun x => QP ((lookD d k).getD x) := by
  unfold pGet; rw [pw_bind]; simp only [pw_bind, pw_map]
/-! .. that change the state -/
theorem ew_op {F : β → γ → Option α} {a : IX S β} {b : IX S γ} : Ew (iOp F a b s) QE ↔ Ew (a s) fun x s1 => Ew (b s1) fun y s2 => Pw (F x y) fun z => QE z s2 := by
  unfold iOp; rw [ew_bind]; simp only [ew_bind, ew_pmap]
theorem ew_un {F : β → Option α} {a : IX S β} : Ew (iUn F a s) QE ↔ Ew (a s) fun x s1 => Pw (F x) fun z => QE z s1 := by
  unfold iUn; rw [ew_bind]; simp only [ew_pmap]
theorem ew_cons {QC : β × γ → S → Prop} {a : IX S β} {b : IX S γ} : Ew (iCons a b s) QC ↔ Ew (a s) fun x s1 => Ew (b s1) fun y s2 => QC (x, y) s2 := by
  unfold iCons; rw [ew_bind]; simp only [ew_map]
theorem ew_Map {g : β → α} {a : IX S β} : Ew (iMap g a s) QE ↔ Ew (a s) fun x s1 => QE (g x) s1 := by unfold iMap; rw [ew_map]
theorem ew_fnB {get : S → ω} {set : ω → S → S} {f : ω → β → Option (α × ω)} {a : IX S β} : Ew (iFnB get set f a s) QE ↔ Ew (a s) fun x s1 => Ew (f (get s1) x) fun y w => QE y (set w s1) := by
  unfold iFnB; rw [ew_bind]; simp only [ew_map]
theorem ew_mut {get : S → ω} {set : ω → S → S} {G : ω → β → Option (ω × α)} {a : IX S β} : Ew (iMut get set G a s) QE ↔ Ew (a s) fun x s1 => Ew (G (get s1) x) fun w y => QE y (set w s1) := by
  unfold iMut; rw [ew_bind]; simp only [ew_map]
theorem ew_bif {o p : Option (α × S)} {x : Bool} : Ew (if x = true then o else p) QE ↔ if x = true then Ew o QE else Ew p QE := by cases x <;> exact Iff.rfl
theorem ew_if {c : IX S Bool} {a b : IX S α} : Ew (iIf c a b s) QE ↔ Ew (c s) fun x s1 => if x = true then Ew (a s1) QE else Ew (b s1) QE := by
  unfold iIf; rw [ew_bind]; simp only [ew_bif]
theorem ew_not {QB : Bool → S → Prop} {a : IX S Bool} : Ew (iNot a s) QB ↔ Ew (a s) fun x s1 => QB (!x) s1 := by unfold iNot; rw [ew_map]
theorem ew_and {QB : Bool → S → Prop} {a b : IX S Bool} : Ew (iAnd a b s) QB ↔ Ew (a s) fun x s1 => if x = true then Ew (b s1) QB else QB false s1 := by
  unfold iAnd; rw [ew_bind]; simp only [ew_bif, ew_some]
theorem ew_or {QB : Bool → S → Prop} {a b : IX S Bool} : Ew (iOr a b s) QB ↔ Ew (a s) fun x s1 => if x = true then QB true s1 else Ew (b s1) QB := by
  unfold iOr; rw [ew_bind]; simp only [ew_bif, ew_some]
theorem ew_sl {QL : List α → S → Prop} {a : IX S (List α)} {lo hi : Option (PX S Int)} : Ew (iSl a lo hi s) QL ↔ Ew (a s) fun x s1 => Pw (pPart lo s1) fun l => Pw (pPart hi s1) fun h => QL (cutL x l h) s1 := by
  unfold iSl
  rw [ew_bind]
  constructor
  · rintro ⟨x, s1, e, h⟩
    obtain ⟨a, b, e2, q⟩ := h
    obtain ⟨l, h1, e2⟩ := Option.bind_eq_some_iff.mp e2
    obtain ⟨h, h2, e2⟩ := Option.map_eq_some_iff.mp e2
    cases e2
    exact ⟨x, _, e, l, h1, h, h2, q⟩
  · rintro ⟨x, s1, e, l, h1, h, h2, q⟩
    exact ⟨x, s1, e, _, s1, by simp only [h1, h2, Option.bind_some, Option.map_some], q⟩
theorem ew_lc {QL : List β → S → Prop} {rst : S → S → S} {it : IX S (List α)} {set : α → S → S} {c : IX S Bool} {e : IX S β} : Ew (iLc rst it set c e s) QL ↔ Ew (it s) fun xs s1 => xs.length ≤ sizeLine ∧ Ew (lcI set c e xs s1) fun ys s2 => QL ys (rst s1 s2) := by
  unfold iLc
  rw [ew_bind]
  constructor
  · rintro ⟨xs, s1, e, h⟩
    refine ⟨xs, s1, e, ?_⟩
    simp only at h
    split at h
    · rename_i hl; exact ⟨hl, ew_map.mp h⟩
    · obtain ⟨_, _, e, _⟩ := h; cases e
  · rintro ⟨xs, s1, e, hl, h⟩
    refine ⟨xs, s1, e, ?_⟩
    simp only [if_pos hl]
    exact ew_map.mpr h
/-- the state of the worker: some number below m -/
theorem ew_next {Qw : Int → Wk → Prop} {w : Wk} {m : Int} {u : Unit} (hm : 0 < m) (k : ∀ x w', 0 ≤ x → x < m → Qw x w') : Ew (nextO w (m, u)) Qw := by
  refine ⟨_, _, by unfold nextO; rw [if_pos hm], k _ _ (nxt_le _ _ hm) (nxt_lt _ _ hm)⟩
theorem ew_pick {Qw : α → Wk → Prop} {w : Wk} {xs : List α} {u : Unit} (hm : xs ≠ []) (k : ∀ x w', x ∈ xs → Qw x w') : Ew (pickO w (xs, u)) Qw := by
  have hp : 0 < xs.length := List.length_pos_iff.mpr hm
  have h0 := nxt_le w.ds w.at' (m := xs.length) (by omega)
  have h1 := nxt_lt w.ds w.at' (m := xs.length) (by omega)
  have hk : (nxt w.ds w.at' xs.length).toNat < xs.length := by omega
  refine ⟨xs[(nxt w.ds w.at' xs.length).toNat], ⟨w.ds, w.at' + 1⟩, ?_, k _ _ (List.getElem_mem hk)⟩
  unfold pickO
  simp only [List.getElem?_eq_getElem hk]
/-! statements -/
theorem tw_nil : TW (tNil s) Q ↔ Q .nx s := tw_some
theorem tw_break : TW (tBreak s) Q ↔ Q .bk s := tw_some
theorem tw_cont : TW (tCont s) Q ↔ Q .ct s := tw_some
theorem tw_seq {a b : SX S R} : TW (tSeq a b s) Q ↔ TW (a s) (Nxt (fun s' => TW (b s') Q) Q) := by
  unfold tSeq TW
  constructor
  · rintro ⟨fl, s', e, q⟩
    obtain ⟨⟨f1, s1⟩, e1, e2⟩ := Option.bind_eq_some_iff.mp e
    refine ⟨f1, s1, e1, ?_⟩
    cases f1 with
    | nx => exact ⟨fl, s', e2, q⟩
    | bk => cases e2; exact q
    | ct => cases e2; exact q
    | rt r => cases e2; exact q
  · rintro ⟨f1, s1, e1, q⟩
    cases f1 with
    | nx => obtain ⟨fl, s', e2, q⟩ := q; exact ⟨fl, s', by simp only [e1, Option.bind_some]; exact e2, q⟩
    | bk => exact ⟨.bk, s1, by simp only [e1, Option.bind_some], q⟩
    | ct => exact ⟨.ct, s1, by simp only [e1, Option.bind_some], q⟩
    | rt r => exact ⟨.rt r, s1, by simp only [e1, Option.bind_some], q⟩
theorem tw_if {c : IX S Bool} {a b : SX S R} : TW (tIf c a b s) Q ↔ Ew (c s) fun x s1 => if x = true then TW (a s1) Q else TW (b s1) Q := by
  unfold tIf TW
  exact ew_bind.trans (by simp only [ew_bif]; exact Iff.rfl)
theorem tw_set {set : α → S → S} {f : IX S α} : TW (tSet set f s) Q ↔ Ew (f s) fun x s1 => Q .nx (set x s1) := ew_map
theorem tw_drop {f : IX S α} : TW (tDrop f s) Q ↔ Ew (f s) fun _ s1 => Q .nx s1 := ew_map
theorem tw_ret {f : IX S R} : TW (tRet f s) Q ↔ Ew (f s) fun x s1 => Q (.rt x) s1 := ew_map
theorem tw_aug {get : S → α} {set : γ → S → S} {F : α → β → Option γ} {f : IX S β} : TW (tAug get set F f s) Q ↔ Ew (f s) fun x s1 => Pw (F (get s) x) fun z => Q .nx (set z s1) := by
  unfold tAug TW
  exact ew_bind.trans (by simp only [ew_pmap])
theorem tw_put {get : S → ω} {set : ω → S → S} {P : ω → α → β → Option ω} {fk : IX S α} {fv : IX S β} : TW (tPut get set P fk fv s) Q ↔ Ew (fv s) fun v s1 => Ew (fk s1) fun k s2 => Pw (P (get s2) k v) fun w => Q .nx (set w s2) := by
  unfold tPut TW
  exact ew_bind.trans (by simp only [ew_bind, ew_pmap])
theorem tw_augix {get : S → ω} {set : ω → S → S} {G : ω → α → Option γ} {F : γ → β → Option δ} {P : ω → α → δ → Option ω} {fk : IX S α} {f : IX S β} : TW (tAugIx get set G F P fk f s) Q ↔ Ew (fk s) fun k s1 => Pw (G (get s1) k) fun a => Ew (f s1) fun b s2 => Pw (F a b) fun z => Pw (P (get s2) k z) fun w => Q .nx (set w s2) := by
  unfold tAugIx TW
  refine ew_bind.trans ?_
  constructor
  · rintro ⟨k, s1, e, fl, s', e2, q⟩
    obtain ⟨a, h1, e2⟩ := Option.bind_eq_some_iff.mp e2
    obtain ⟨⟨b, s2⟩, h2, e2⟩ := Option.bind_eq_some_iff.mp e2
    obtain ⟨z, h3, e2⟩ := Option.bind_eq_some_iff.mp e2
    obtain ⟨w, h4, e2⟩ := Option.map_eq_some_iff.mp e2
    cases e2
    exact ⟨k, s1, e, a, h1, b, s2, h2, z, h3, w, h4, q⟩
  · rintro ⟨k, s1, e, a, h1, b, s2, h2, z, h3, w, h4, q⟩
    exact ⟨k, s1, e, .nx, _, by simp only [h1, h2, h3, h4, Option.bind_some, Option.map_some], q⟩
theorem tw_par {set : α → S → S} {set' : β → S → S} {fa : IX S α} {fb : IX S β} : TW (tPar set set' fa fb s) Q ↔ Ew (fa s) fun x s1 => Ew (fb s1) fun y s2 => Q .nx (set' y (set x s2)) := by
  unfold tPar TW
  exact ew_bind.trans (by simp only [ew_map])
theorem tw_par3 {set : α → S → S} {set' : β → S → S} {set'' : γ → S → S} {fa : IX S α} {fb : IX S β} {fc : IX S γ} : TW (tPar3 set set' set'' fa fb fc s) Q ↔ Ew (fa s) fun x s1 => Ew (fb s1) fun y s2 => Ew (fc s2) fun z s3 => Q .nx (set'' z (set' y (set x s3))) := by
  unfold tPar3 TW
  exact ew_bind.trans (by simp only [ew_bind, ew_map])
theorem tw_par4 {set : α → S → S} {set' : β → S → S} {set'' : γ → S → S} {set3 : δ → S → S} {fa : IX S α} {fb : IX S β} {fc : IX S γ} {fd : IX S δ} : TW (tPar4 set set' set'' set3 fa fb fc fd s) Q ↔ Ew (fa s) fun x s1 => Ew (fb s1) fun y s2 => Ew (fc s2) fun z s3 => Ew (fd s3) fun u s4 => Q .nx (set3 u (set'' z (set' y (set x s4)))) := by
  unfold tPar4 TW
  exact ew_bind.trans (by simp only [ew_bind, ew_map])
theorem tw_for {it : IX S (List α)} {set : α → S → S} {b : SX S R} : TW (tFor it set b s) Q ↔ Ew (it s) fun xs s1 => TW (forT set b xs s1) Q := ew_bind
theorem for_inv {set : α → S → S} {b : SX S R} (I : Nat → S → Prop) : ∀ (xs : List α) (n : Nat) (s : S), I n s → (∀ (k : Nat) (x : α) (s : S), xs[k]? = some x → I (n + k) s → TW (b (set x s)) (Lpt (I (n + k + 1)) Q)) → (∀ s, I (n + xs.length) s → Q .nx s) → TW (forT set b xs s) Q
  | [], n, s, i, _, e => tw_some.mpr (e s i)
  | x :: xs, n, s, i, h, e => by
    obtain ⟨fl, s1, e1, q⟩ := h 0 x s rfl i
    have rest : ∀ s1, I (n + 1) s1 → TW (forT set b xs s1) Q := fun s1 i1 => for_inv I xs (n + 1) s1 i1
      (fun k x' s' et i' => by
        have := h (k + 1) x' s' (by simpa using et) (by rw [show n + (k + 1) = n + 1 + k by omega]; exact i')
        rw [show n + (k + 1) + 1 = n + 1 + k + 1 by omega] at this
        exact this)
      (fun s' i' => e s' (by rw [List.length_cons, show n + (xs.length + 1) = n + 1 + xs.length by omega]; exact i'))
    unfold forT
    rw [e1, Option.bind_some]
    cases fl with
    | nx => exact rest s1 q
    | ct => exact rest s1 q
    | bk => exact tw_some.mpr q
    | rt r => exact tw_some.mpr q
/-- a loop, the state by turns; what is walked is a list -/
theorem tw_forI {set : α → S → S} {b : SX S R} {xs : List α} (I : Nat → S → Prop) (h0 : I 0 s) (h : ∀ (k : Nat) (hk : k < xs.length) (s : S), I k s → TW (b (set xs[k] s)) (Lpt (I (k + 1)) Q)) (he : ∀ s, I xs.length s → Q .nx s) : TW (forT set b xs s) Q :=
  for_inv I xs 0 s h0 (fun k x s e i => by
    obtain ⟨hk, rfl⟩ := List.getElem?_eq_some_iff.mp e
    rw [Nat.zero_add] at i ⊢
    exact h k hk s i) (fun s i => he s (by rw [Nat.zero_add] at i; exact i))
/-- .. the items alone matter -/
theorem tw_forM {set : α → S → S} {b : SX S R} {xs : List α} (I : S → Prop) (h0 : I s) (h : ∀ x ∈ xs, ∀ s, I s → TW (b (set x s)) (Lpt I Q)) (he : ∀ s, I s → Q .nx s) : TW (forT set b xs s) Q :=
  tw_forI (fun _ => I) h0 (fun k hk s i => h _ (List.getElem_mem hk) s i) he
/-- .. what is left is walked -/
theorem tw_forL {set : α → S → S} {b : SX S R} (I : List α → S → Prop) : ∀ (xs : List α) (s : S), I xs s → (∀ x r s, I (x :: r) s → TW (b (set x s)) (Lpt (I r) Q)) → (∀ s, I [] s → Q .nx s) → TW (forT set b xs s) Q
  | [], s, i, _, e => tw_some.mpr (e s i)
  | x :: xs, s, i, h, e => by
    obtain ⟨fl, s1, e1, q⟩ := h x xs s i
    unfold forT
    rw [e1, Option.bind_some]
    cases fl with
    | nx => exact tw_forL I xs s1 q h e
    | ct => exact tw_forL I xs s1 q h e
    | bk => exact tw_some.mpr q
    | rt r => exact tw_some.mpr q
theorem while_inv {c : IX S Bool} {b : SX S R} (I : Nat → S → Prop) (h : ∀ k s, I k s → Ew (c s) fun x s1 => if x = true then TW (b s1) (Lpt (fun s2 => ∃ k', k' < k ∧ I k' s2) Q) else Q .nx s1) : ∀ (n k : Nat) (s : S), k < n → I k s → TW (tWhile n c b s) Q
  | 0, k, s, hk, _ => by omega
  | n + 1, k, s, hk, i => by
    obtain ⟨x, s1, e, q⟩ := h k s i
    unfold tWhile
    rw [e, Option.bind_some]
    cases x with
    | false => exact tw_some.mpr q
    | true =>
      simp only [if_true] at q ⊢
      obtain ⟨fl, s2, e2, q⟩ := q
      rw [e2, Option.bind_some]
      cases fl with
      | nx => obtain ⟨k', hk', i'⟩ := q; exact while_inv I h n k' s2 (by omega) i'
      | ct => obtain ⟨k', hk', i'⟩ := q; exact while_inv I h n k' s2 (by omega) i'
      | bk => exact tw_some.mpr q
      | rt r => exact tw_some.mpr q
/-- a while by a measure -/
theorem tw_while {c : IX S Bool} {b : SX S R} {k : Nat} (I : Nat → S → Prop) (h0 : I k s) (hk : k < fuel) (h : ∀ k s, I k s → Ew (c s) fun x s1 => if x = true then TW (b s1) (Lpt (fun s2 => ∃ k', k' < k ∧ I k' s2) Q) else Q .nx s1) : TW (tWhile fuel c b s) Q := while_inv I h fuel k s hk h0
/-! comprehensions -/
theorem lcO_eq {c : α → Option Bool} {e : α → Option β} {p : α → Bool} {f : α → β} : ∀ (xs : List α), (∀ x ∈ xs, c x = some (p x)) → (∀ x ∈ xs, p x = true → e x = some (f x)) → lcO c e xs = some ((xs.filter p).map f)
  | [], _, _ => rfl
  | x :: xs, h, k => by
    have ih := lcO_eq xs (fun y m => h y (List.mem_cons_of_mem _ m)) fun y m => k y (List.mem_cons_of_mem _ m)
    rw [lcO, h x List.mem_cons_self, Option.bind_some, List.filter_cons]
    cases hp : p x with
    | true =>
      rw [if_pos rfl, k x List.mem_cons_self hp, Option.bind_some, ih]; rfl
    | false =>
      rw [if_neg (by decide), ih]; rfl
theorem pw_lcO {c : α → Option Bool} {e : α → Option β} {xs : List α} {QL : List β → Prop} (p : α → Bool) (f : α → β) (h : ∀ x ∈ xs, Pw (c x) fun b => b = p x) (k : ∀ x ∈ xs, p x = true → Pw (e x) fun y => y = f x) (q : QL ((xs.filter p).map f)) : Pw (lcO c e xs) QL :=
  pw_of (lcO_eq xs (fun x m => (h x m).eq) fun x m hp => (k x m hp).eq) q
theorem filter_true {xs : List α} : xs.filter (fun _ => true) = xs := List.filter_eq_self.mpr fun _ _ => rfl
theorem pw_lcM {e : α → Option β} {g : α → S} {xs : List α} {QL : List β → Prop} (f : α → β) (k : ∀ x ∈ xs, Pw (e x) fun y => y = f x) (q : QL (xs.map f)) : Pw (lcO (fun x => pYes (g x)) e xs) QL :=
  pw_lcO (fun _ => true) f (fun x _ => pw_some.mpr rfl) (fun x m _ => k x m) (by rw [filter_true]; exact q)
/-- the parts change the state: what is gathered by turns -/
theorem ew_lcI {set : α → S → S} {c : IX S Bool} {e : IX S β} {QL : List β → S → Prop} (I : List β → List α → S → Prop) : ∀ (xs : List α) (ys : List β) (s : S), I ys xs s → (∀ x r ys s, I ys (x :: r) s → Ew (c (set x s)) fun b s1 => if b = true then Ew (e s1) fun y s2 => I (ys ++ [y]) r s2 else I ys r s1) → (∀ ys s, I ys [] s → QL ys s) → Ew (lcI set c e xs s) fun zs s' => QL (ys ++ zs) s'
  | [], ys, s, i, _, e => ew_some.mpr (by rw [List.append_nil]; exact e ys s i)
  | x :: xs, ys, s, i, h, e' => by
    obtain ⟨b, s1, e1, q⟩ := h x xs ys s i
    rw [lcI, e1, Option.bind_some]
    cases b with
    | true =>
      simp only [if_true] at q ⊢
      obtain ⟨y, s2, e2, q⟩ := q
      rw [e2, Option.bind_some]
      have ih := ew_lcI I xs (ys ++ [y]) s2 q h e'
      obtain ⟨zs, s3, e3, q3⟩ := ih
      exact ⟨y :: zs, s3, by simp only [e3, Option.map_some], by simpa using q3⟩
    | false =>
      simp only [Bool.false_eq_true, if_false] at q ⊢
      exact ew_lcI I xs ys s1 q h e'
theorem ew_yes {QB : Bool → S → Prop} : Ew (pu pYes s) QB ↔ QB true s := ew_pu.trans pw_some
theorem pw_yes {QB : Bool → Prop} : Pw (pYes s) QB ↔ QB true := pw_some
/-! defs -/
theorem run_eq {nn : Option R} {b : SX S R} {r : R} (h : TW (b s) fun fl _ => match fl with
    | .rt v => v = r
    | .nx => nn = some r
    | _ => False) : runT nn b s = some r := by
  obtain ⟨fl, s', e, q⟩ := h
  unfold runT
  rw [e]
  cases fl with
  | rt v => cases q; rfl
  | nx => exact q
  | bk => exact q.elim
  | ct => exact q.elim
theorem run_pw {nn : Option R} {b : SX S R} {QR : R → Prop} (h : TW (b s) fun fl _ => match fl with
    | .rt v => QR v
    | .nx => Pw nn QR
    | _ => False) : Pw (runT nn b s) QR := by
  obtain ⟨fl, s', e, q⟩ := h
  unfold runT
  rw [e]
  cases fl with
  | rt v => exact pw_some.mpr q
  | nx => exact q
  | bk => exact q.elim
  | ct => exact q.elim
theorem runB_ew {nn : Option R} {b : SX S R} {get : S → ω} {QR : R → ω → Prop} (h : TW (b s) fun fl s' => match fl with
    | .rt v => QR v (get s')
    | .nx => Pw nn fun r => QR r (get s')
    | _ => False) : Ew (runB nn get b s) QR := by
  obtain ⟨fl, s', e, q⟩ := h
  unfold runB
  rw [e]
  cases fl with
  | rt v => exact ew_some.mpr q
  | nx => exact ew_pmap.mpr q
  | bk => exact q.elim
  | ct => exact q.elim
/-! operations -/
theorem o_addI {QI : Int → Prop} {a b : Int} : Pw (addI a b) QI ↔ QI (a + b) := pw_some
theorem o_subI {QI : Int → Prop} {a b : Int} : Pw (subI a b) QI ↔ QI (a - b) := pw_some
theorem o_negI {QI : Int → Prop} {a : Int} : Pw (negI a) QI ↔ QI (-a) := pw_some
theorem o_mulO {QI : Int → Prop} {a b : Int} : Pw (mulO a b) QI ↔ ((-(2 ^ 64) < a ∧ a < 2 ^ 64) ∨ (-(2 ^ 64) < b ∧ b < 2 ^ 64)) ∧ QI (a * b) := pw_ite
theorem o_divO {QI : Int → Prop} {a b : Int} : Pw (divO a b) QI ↔ (0 < b ∧ b < 1073741824) ∧ QI (a / b) := pw_ite
theorem o_modO {QI : Int → Prop} {a b : Int} : Pw (modO a b) QI ↔ 0 < b ∧ QI (a % b) := pw_ite
theorem o_powO {QI : Int → Prop} {a b : Int} : Pw (powO a b) QI ↔ (0 ≤ b ∧ b ≤ 1000000 ∧ a.natAbs < 2 ^ 64) ∧ QI (a ^ b.toNat) := pw_ite
theorem o_shlO {QI : Int → Prop} {a b : Int} : Pw (shlO a b) QI ↔ (0 ≤ b ∧ b ≤ 1000000 ∧ a.natAbs < 2 ^ 64) ∧ QI (a * 2 ^ b.toNat) := pw_ite
theorem o_shrO {QI : Int → Prop} {a b : Int} : Pw (shrO a b) QI ↔ 0 ≤ b ∧ QI (a / 2 ^ b.toNat) := pw_ite
theorem o_ltO {QB : Bool → Prop} {a b : Int} : Pw (ltO a b) QB ↔ QB (decide (a < b)) := pw_some
theorem o_leO {QB : Bool → Prop} {a b : Int} : Pw (leO a b) QB ↔ QB (decide (a ≤ b)) := pw_some
theorem o_gtO {QB : Bool → Prop} {a b : Int} : Pw (gtO a b) QB ↔ QB (decide (b < a)) := pw_some
theorem o_geO {QB : Bool → Prop} {a b : Int} : Pw (geO a b) QB ↔ QB (decide (b ≤ a)) := pw_some
theorem o_ltX {QB : Bool → Prop} [Od α] {a b : α} : Pw (ltX a b) QB ↔ QB (Od.lt a b) := pw_some
theorem o_gtX {QB : Bool → Prop} [Od α] {a b : α} : Pw (gtX a b) QB ↔ QB (Od.lt b a) := pw_some
theorem o_leX {QB : Bool → Prop} [Od α] {a b : α} : Pw (leX a b) QB ↔ QB (!Od.lt b a) := pw_some
theorem o_geX {QB : Bool → Prop} [Od α] {a b : α} : Pw (geX a b) QB ↔ QB (!Od.lt a b) := pw_some
theorem o_eqO {QB : Bool → Prop} [DecidableEq α] {a b : α} : Pw (eqO a b) QB ↔ QB (decide (a = b)) := pw_some
theorem o_neO {QB : Bool → Prop} [DecidableEq α] {a b : α} : Pw (neO a b) QB ↔ QB (decide (a ≠ b)) := pw_some
theorem o_isNO {QB : Bool → Prop} {a : Option α} {u : Unit} : Pw (isNO a u) QB ↔ QB a.isNone := pw_some
theorem o_isntNO {QB : Bool → Prop} {a : Option α} {u : Unit} : Pw (isntNO a u) QB ↔ QB a.isSome := pw_some
theorem o_isN0 {QB : Bool → Prop} {a : α} {u : Unit} : Pw (isN0 a u) QB ↔ QB false := pw_some
theorem o_isntN0 {QB : Bool → Prop} {a : α} {u : Unit} : Pw (isntN0 a u) QB ↔ QB true := pw_some
theorem o_inO {QB : Bool → Prop} [DecidableEq α] {a : α} {xs : List α} : Pw (inO a xs) QB ↔ QB (decide (a ∈ xs)) := pw_some
theorem o_ninO {QB : Bool → Prop} [DecidableEq α] {a : α} {xs : List α} : Pw (ninO a xs) QB ↔ QB (decide (a ∉ xs)) := pw_some
theorem o_lenO {QI : Int → Prop} {xs : List α} {u : Unit} : Pw (lenO (xs, u)) QI ↔ QI (xs.length : Int) := pw_some
theorem o_lenS {QI : Int → Prop} {xs : Tx} {u : Unit} : Pw (lenS (xs, u)) QI ↔ xs.length ≤ sizeLine ∧ QI (xs.length : Int) := pw_ite
theorem o_idO {a : α} {u : Unit} : Pw (idO (a, u)) QP ↔ QP a := pw_some
theorem o_sumO {QI : Int → Prop} {xs : List Int} {u : Unit} : Pw (sumO (xs, u)) QI ↔ QI xs.sum := pw_some
theorem o_allO {QB : Bool → Prop} {xs : List Bool} {u : Unit} : Pw (allO (xs, u)) QB ↔ QB (xs.all id) := pw_some
theorem o_anyO {QB : Bool → Prop} {xs : List Bool} {u : Unit} : Pw (anyO (xs, u)) QB ↔ QB (xs.any id) := pw_some
theorem o_absO {QI : Int → Prop} {a : Int} {u : Unit} : Pw (absO (a, u)) QI ↔ QI (if a < 0 then -a else a) := pw_some
theorem o_max2O {QI : Int → Prop} {a b : Int} {u : Unit} : Pw (max2O (a, b, u)) QI ↔ QI (if b > a then b else a) := pw_some
theorem o_min2O {QI : Int → Prop} {a b : Int} {u : Unit} : Pw (min2O (a, b, u)) QI ↔ QI (if b < a then b else a) := pw_some
theorem o_intB {QI : Int → Prop} {a : Bool} {u : Unit} : Pw (intB (a, u)) QI ↔ QI (if a = true then 1 else 0) := pw_some
theorem o_catO {QL : List α → Prop} {a b : List α} : Pw (catO a b) QL ↔ a.length + b.length ≤ sizeLine ∧ QL (a ++ b) := pw_ite
theorem o_repO {QL : List α → Prop} {a : List α} {n : Int} : Pw (repO a n) QL ↔ (-(2 ^ 63) ≤ n ∧ n < 2 ^ 63 ∧ a.length * n.toNat ≤ sizeLine) ∧ QL (List.replicate n.toNat a).flatten := pw_ite
theorem o_revO {QL : List α → Prop} {a : List α} : Pw (revO a) QL ↔ QL a.reverse := pw_some
theorem o_rng1 {QL : List Int → Prop} {n : Int} {u : Unit} : Pw (rng1 (n, u)) QL ↔ inRg n = true ∧ QL (rng 0 n) := pw_ite
theorem o_rng2 {QL : List Int → Prop} {a b : Int} {u : Unit} : Pw (rng2 (a, b, u)) QL ↔ (inRg a && inRg b) = true ∧ QL (rng a b) := pw_ite
theorem o_rgL1 {QL : List Int → Prop} {n : Int} : Pw (rgL1 n) QL ↔ rgOk 0 n = true ∧ QL (rng 0 n) := pw_ite
theorem o_rgL2 {QL : List Int → Prop} {a b : Int} : Pw (rgL2 a b) QL ↔ rgOk a b = true ∧ QL (rng a b) := pw_ite
theorem o_zip2 {QL : List (α × β) → Prop} {a : List α} {b : List β} {u : Unit} : Pw (zip2 (a, b, u)) QL ↔ QL (a.zip b) := pw_some
theorem o_toO {QO : Option α → Prop} {a : α} : Pw (toO a) QO ↔ QO (some a) := pw_some
theorem o_unO {a : α} : Pw (unO (some a)) QP ↔ QP a := pw_some
theorem o_sortO {QL : List α → Prop} [Od α] {a : List α} {u : Unit} : Pw (sortO (a, u)) QL ↔ a.length ≤ sizeLine ∧ QL (srt a) := pw_ite
theorem o_sortIO {QL : List Int → Prop} {a : List Int} {u : Unit} : Pw (sortIO (a, u)) QL ↔ QL (srt a) := pw_some
theorem o_sortTO {QL : List Int → Prop} {a : List Int} {u : Unit} : Pw (sortTO (a, u)) QL ↔ a.length < 64 ∧ QL (srt a) := pw_ite
theorem o_minX {QA : α → Prop} [Od α] {x : α} {xs : List α} {u : Unit} : Pw (minX (x :: xs, u)) QA ↔ QA (minF x xs) := pw_some
theorem o_maxX {QA : α → Prop} [Od α] {x : α} {xs : List α} {u : Unit} : Pw (maxX (x :: xs, u)) QA ↔ QA (maxF x xs) := pw_some
theorem o_appO {QW : List α → Unit → Prop} {xs : List α} {a : α} {u : Unit} : Ew (appO xs (a, u)) QW ↔ xs.length < sizeLine ∧ QW (xs ++ [a]) () := by
  unfold appO
  by_cases h : xs.length < sizeLine
  · rw [if_pos h]; exact ew_some.trans ⟨fun q => ⟨h, q⟩, fun q => q.2⟩
  · rw [if_neg h]; exact ⟨fun ⟨_, _, e, _⟩ => (nomatch e), fun q => absurd q.1 h⟩
theorem o_extO {QW : List α → Unit → Prop} {xs ys : List α} {u : Unit} : Ew (extO xs (ys, u)) QW ↔ xs.length + ys.length ≤ sizeLine ∧ QW (xs ++ ys) () := by
  unfold extO
  by_cases h : xs.length + ys.length ≤ sizeLine
  · rw [if_pos h]; exact ew_some.trans ⟨fun q => ⟨h, q⟩, fun q => q.2⟩
  · rw [if_neg h]; exact ⟨fun ⟨_, _, e, _⟩ => (nomatch e), fun q => absurd q.1 h⟩
theorem o_inD {κ : Type} [DecidableEq κ] {QB : Bool → Prop} {k : κ} {d : List (κ × α)} : Pw (inD k d) QB ↔ QB (lookD d k).isSome := pw_some
theorem o_ninD {κ : Type} [DecidableEq κ] {QB : Bool → Prop} {k : κ} {d : List (κ × α)} : Pw (ninD k d) QB ↔ QB (!(lookD d k).isSome) := pw_some
theorem o_putDO {κ : Type} [DecidableEq κ] {k : κ} {v : α} {d : List (κ × α)} {QD : List (κ × α) → Prop} : Pw (putDO d k v) QD ↔ d.length < sizeLine ∧ QD (putD d k v) := pw_ite
theorem o_getD1 {κ : Type} [DecidableEq κ] {QO : Option α → Prop} {k : κ} {d : List (κ × α)} : Pw (getD1 d k) QO ↔ QO (lookD d k) := pw_some
theorem o_cntO {QI : Int → Prop} [DecidableEq α] {xs : List α} {a : α} {u : Unit} : Pw (cntO xs (a, u)) QI ↔ QI (xs.count a : Nat) := pw_some
/-- an item by its place -/
theorem atO_nat {xs : List α} {k : Nat} (h : k < xs.length) : atO xs (k : Int) = some xs[k] := by
  unfold atO
  rw [ixN_nat h, Option.bind_some, List.getElem?_eq_getElem h]
theorem atO_last {xs : List α} (h : xs ≠ []) : atO xs (-1) = some (xs.getLast h) := by
  have hp : 0 < xs.length := List.length_pos_iff.mpr h
  unfold atO ixN
  rw [if_neg (by omega), if_pos (by omega), Option.bind_some, ← List.getLast?_eq_some_getLast h, List.getLast?_eq_getElem?]
  congr 1
  omega
theorem atO_0 {x : α} {xs : List α} : atO (x :: xs) 0 = some x := atO_nat (xs := x :: xs) (k := 0) (by simp)
theorem o_atO {xs : List α} {k : Nat} : Pw (atO xs (k : Int)) QP ↔ ∃ h : k < xs.length, QP xs[k] := by
  constructor
  · rintro ⟨a, e, q⟩
    by_cases h : k < xs.length
    · rw [atO_nat h] at e; cases e; exact ⟨h, q⟩
    · unfold atO ixN at e
      rw [if_pos (by omega), if_neg (by omega)] at e
      cases e
  · rintro ⟨h, q⟩
    exact ⟨_, atO_nat h, q⟩
theorem o_atO0 {x : α} {xs : List α} : Pw (atO (x :: xs) 0) QP ↔ QP x := by rw [atO_0]; exact pw_some
theorem setO_nat {xs : List α} {k : Nat} {v : α} (h : k < xs.length) : setO xs (k : Int) v = some (xs.set k v) := by
  unfold setO
  rw [ixN_nat h]; rfl
theorem o_setO {QL : List α → Prop} {xs : List α} {k : Nat} {v : α} : Pw (setO xs (k : Int) v) QL ↔ k < xs.length ∧ QL (xs.set k v) := by
  constructor
  · rintro ⟨a, e, q⟩
    by_cases h : k < xs.length
    · rw [setO_nat h] at e; cases e; exact ⟨h, q⟩
    · unfold setO ixN at e
      rw [if_pos (by omega), if_neg (by omega)] at e
      cases e
  · rintro ⟨h, q⟩
    exact ⟨_, setO_nat h, q⟩
theorem rng_nat (n : Nat) : rng 0 (n : Int) = (List.range n).map fun (k : Nat) => (k : Int) := by
  unfold rng
  rw [Int.sub_zero, Int.toNat_natCast]
  exact List.map_congr_left fun k _ => by omega
theorem mem_rng {a b x : Int} : x ∈ rng a b ↔ a ≤ x ∧ x < b := by
  unfold rng
  rw [List.mem_map]
  constructor
  · rintro ⟨k, hk, rfl⟩
    have := List.mem_range.mp hk
    omega
  · rintro ⟨h1, h2⟩
    exact ⟨(x - a).toNat, List.mem_range.mpr (by omega), by omega⟩
theorem length_rng (a b : Int) : (rng a b).length = (b - a).toNat := by unfold rng; rw [List.length_map, List.length_range]
theorem inRg_of {n : Int} (h : -(2 ^ 62) ≤ n ∧ n < 2 ^ 62) : inRg n = true := by simp only [inRg, Bool.and_eq_true, decide_eq_true_eq]; omega
theorem rgOk_of {a b : Int} (h : -(2 ^ 62) ≤ a ∧ a < 2 ^ 62 ∧ -(2 ^ 62) ≤ b ∧ b < 2 ^ 62 ∧ (b - a).toNat ≤ 2 ^ 24) : rgOk a b = true := by simp only [rgOk, Bool.and_eq_true, decide_eq_true_eq]; omega
theorem szL : (100000 : Nat) ≤ sizeLine := by decide
end
end TY
namespace TY
theorem bool_t {p : Prop} [Decidable p] : (decide p = true) = p := by simp
theorem ite_t {α : Sort _} {a b : α} : (if true = true then a else b) = a := rfl
theorem ite_f {α : Sort _} {a b : α} : (if false = true then a else b) = b := rfl
end TY
namespace TY
open PySem PySem.Spec TL
section
variable {α β κ : Type} {QP : α → Prop}
/-! ### more for the plain side -/
theorem o_atI {xs : List α} {i : Int} (d : α) (h : 0 ≤ i ∧ i < xs.length) : Pw (atO xs i) QP ↔ QP (xs.getD i.toNat d) := by
  have hk : i.toNat < xs.length := by omega
  have e : atO xs i = some (xs.getD i.toNat d) := by
    have : i = (i.toNat : Int) := by omega
    rw [this, atO_nat (by omega), Int.toNat_natCast, List.getD_eq_getElem?_getD, List.getElem?_eq_getElem hk]; rfl
  rw [e]; exact pw_some
theorem rep_one (n : Nat) (a : α) : (List.replicate n [a]).flatten = List.replicate n a := by
  induction n with
  | zero => rfl
  | succ n ih => rw [List.replicate_succ, List.flatten_cons, ih, List.replicate_succ]; rfl
def minBy [Od κ] (f : α → κ) (x : α) (xs : List α) : α := xs.foldl (fun a y => if Od.lt (f y) (f a) = true then y else a) x
theorem minF_map [Od κ] (f : α → κ) : ∀ (xs : List α) (x : α), minF (f x) (xs.map f) = f (minBy f x xs)
  | [], x => rfl
  | y :: ys, x => by
    have ih := minF_map f ys
    unfold minF minBy at *
    rw [List.map_cons, List.foldl_cons, List.foldl_cons, ← ih]
    by_cases h : Od.lt (f y) (f x) = true
    · rw [if_pos h, if_pos h]
    · rw [if_neg h, if_neg h]
theorem minBy_mem [Od κ] (f : α → κ) : ∀ (xs : List α) (x : α), minBy f x xs ∈ x :: xs
  | [], x => List.mem_cons_self
  | y :: ys, x => by
    have ih := minBy_mem f ys (if Od.lt (f y) (f x) = true then y else x)
    unfold minBy at *
    rw [List.foldl_cons]
    rcases List.mem_cons.mp ih with h | h
    · rw [h]
      split
      · exact List.mem_cons_of_mem _ List.mem_cons_self
      · exact List.mem_cons_self
    · exact List.mem_cons_of_mem _ (List.mem_cons_of_mem _ h)
theorem Od.le_tr [Od κ] {a b c : κ} (h : Od.lt b a = false) (k : Od.lt c b = false) : Od.lt c a = false := by
  have := leB_tr a b c (by unfold leB; rw [h]; rfl) (by unfold leB; rw [k]; rfl)
  unfold leB at this
  simpa using this
theorem minBy_le [Od κ] (f : α → κ) : ∀ (xs : List α) (x : α), ∀ y ∈ x :: xs, Od.lt (f y) (f (minBy f x xs)) = false
  | [], x, y, hy => by
    have : y = x := by simpa using hy
    subst this; exact Od.irr _
  | z :: zs, x, y, hy => by
    have ih := minBy_le f zs (if Od.lt (f z) (f x) = true then z else x)
    have e : minBy f x (z :: zs) = minBy f (if Od.lt (f z) (f x) = true then z else x) zs := rfl
    rw [e]
    by_cases h : Od.lt (f z) (f x) = true
    · rw [if_pos h] at ih ⊢
      rcases List.mem_cons.mp hy with rfl | hy
      · exact Od.le_tr (ih z List.mem_cons_self) (Od.asy h)
      · exact ih y hy
    · rw [if_neg h] at ih ⊢
      have h : Od.lt (f z) (f x) = false := by simpa using h
      rcases List.mem_cons.mp hy with rfl | hy
      · exact ih y List.mem_cons_self
      · rcases List.mem_cons.mp hy with rfl | hy
        · exact Od.le_tr (ih x List.mem_cons_self) h
        · exact ih y (List.mem_cons_of_mem _ hy)
theorem minBy_congr [Od κ] {μ : Type} [Od μ] (f : α → κ) (g : α → μ) (h : ∀ a b, Od.lt (f a) (f b) = Od.lt (g a) (g b)) (x : α) (xs : List α) : minBy f x xs = minBy g x xs := by
  unfold minBy
  congr 1
  funext a y
  rw [h]
/-- the least one is told by its order alone -/
theorem minBy_uniq [Od κ] (f : α → κ) {x : α} {xs : List α} {k : α} (hk : k ∈ x :: xs) (hl : ∀ y ∈ x :: xs, Od.lt (f y) (f k) = false) (inj : ∀ a ∈ x :: xs, ∀ b ∈ x :: xs, f a = f b → a = b) : minBy f x xs = k :=
  inj _ (minBy_mem f xs x) _ hk (Od.tri _ _ (hl _ (minBy_mem f xs x)) (minBy_le f xs x k hk))
theorem minF_mem [Od α] (x : α) (xs : List α) : minF x xs ∈ x :: xs := minBy_mem id xs x
theorem minF_le [Od α] (x : α) (xs : List α) : ∀ y ∈ x :: xs, Od.lt y (minF x xs) = false := minBy_le id xs x
theorem minL_some : ∀ {xs : List Int}, xs ≠ [] → ∃ m, minL xs = some m
  | [], h => absurd rfl h
  | x :: r, _ => by
    cases e : minL r with
    | none => exact ⟨x, by simp only [minL, e]⟩
    | some m => exact ⟨if m < x then m else x, by simp only [minL, e]⟩
theorem maxL_some : ∀ {xs : List Int}, xs ≠ [] → ∃ m, maxL xs = some m
  | [], h => absurd rfl h
  | x :: r, _ => by
    cases e : maxL r with
    | none => exact ⟨x, by simp only [maxL, e]⟩
    | some m => exact ⟨if x < m then m else x, by simp only [maxL, e]⟩
theorem minL_min : ∀ {xs : List Int} {m : Int}, m ∈ xs → (∀ y ∈ xs, m ≤ y) → minL xs = some m := fun {xs m} hm h => by
  have hne : xs ≠ [] := by rintro rfl; cases hm
  obtain ⟨z, hz⟩ := minL_some hne
  obtain ⟨h1, h2⟩ := minL_ok hz
  have a := h z h1
  have b := h2 m hm
  rw [hz, show z = m by omega]
/-! dicts as rows of pairs -/
theorem lookD_none [DecidableEq κ] {d : List (κ × α)} {k : κ} : lookD d k = none ↔ k ∉ d.map (·.1) := by
  induction d with
  | nil => simp [lookD]
  | cons p r ih =>
    rw [lookD, List.map_cons, List.mem_cons]
    by_cases h : p.1 = k
    · rw [if_pos h]; simp [h]
    · rw [if_neg h, ih]
      have : ¬ k = p.1 := fun z => h z.symm
      simp [this]
theorem putD_new [DecidableEq κ] {d : List (κ × α)} {k : κ} {v : α} (h : k ∉ d.map (·.1)) : putD d k v = d ++ [(k, v)] := by
  unfold putD
  rw [lookD_none.mpr h]; rfl
theorem lookD_app [DecidableEq κ] (d e : List (κ × α)) (k : κ) : lookD (d ++ e) k = match lookD d k with
    | some v => some v
    | none => lookD e k := by
  induction d with
  | nil => rfl
  | cons p r ih =>
    rw [List.cons_append, lookD, lookD]
    by_cases h : p.1 = k
    · rw [if_pos h, if_pos h]
    · rw [if_neg h, if_neg h, ih]
theorem lookD_mem [DecidableEq κ] {d : List (κ × α)} {k : κ} (h : k ∈ d.map (·.1)) : ∃ v, lookD d k = some v := by
  cases e : lookD d k with
  | none => exact absurd h (lookD_none.mp e)
  | some v => exact ⟨v, rfl⟩
end
section
variable {α β : Type}
theorem o_setI {QL : List α → Prop} {xs : List α} {i : Int} {v : α} (h : 0 ≤ i ∧ i < xs.length) : Pw (setO xs i v) QL ↔ QL (xs.set i.toNat v) := by
  have : i = (i.toNat : Int) := by omega
  rw [this, o_setO, Int.toNat_natCast]
  exact ⟨fun q => q.2, fun q => ⟨by omega, q⟩⟩
/-- the first equal one is taken out -/
theorem remO_eq [DecidableEq α] {k : α} : ∀ {xs : List α}, xs.Nodup → k ∈ xs → remO xs (k, ()) = some (xs.filter (fun o => decide (o ≠ k)), ())
  | [], _, h => by cases h
  | a :: r, nd, h => by
    rw [List.nodup_cons] at nd
    unfold remO
    rw [List.findIdx?_cons, List.filter_cons]
    by_cases e : a = k
    · subst e
      have : r.filter (fun o => decide (o ≠ a)) = r := List.filter_eq_self.mpr fun o ho => decide_eq_true fun z => nd.1 (z ▸ ho)
      rw [if_pos (by simp), if_neg (by simp), this]; rfl
    · have hk : k ∈ r := (List.mem_cons.mp h).resolve_left fun z => e z.symm
      have ih := remO_eq nd.2 hk
      unfold remO at ih
      obtain ⟨j, h1, h2⟩ := Option.map_eq_some_iff.mp ih
      rw [if_neg (by simpa using e), if_pos (by simpa using e), h1]
      injection h2 with h3 h4
      simp only [Option.map_some, List.eraseIdx_cons_succ]
      rw [h3]
end
/-! whole numbers written in place of their encodings -/
theorem length_rng0 (n : Nat) : (rng 0 (n : Int)).length = n := by rw [length_rng]; omega
theorem nodup_rng (a b : Int) : (rng a b).Nodup := by
  unfold rng
  exact List.Pairwise.map _ (fun x y h e => h (by omega)) List.nodup_range
end TY
namespace TY
section
variable {α : Type}
theorem perm_of_sub : ∀ {a b : List α}, a.Nodup → (∀ x ∈ a, x ∈ b) → b.length ≤ a.length → a.Perm b
  | [], b, _, _, h => by
    have : b = [] := List.eq_nil_of_length_eq_zero (by simpa using h)
    rw [this]
  | x :: a, b, nd, sub, h => by
    rw [List.nodup_cons] at nd
    obtain ⟨b1, b2, rfl⟩ := List.append_of_mem (sub x List.mem_cons_self)
    have h2 : (b1 ++ b2).length ≤ a.length := by
      rw [List.length_append, List.length_cons, List.length_cons] at h
      rw [List.length_append]; omega
    have ih := perm_of_sub (a := a) (b := b1 ++ b2) nd.2 (fun y hy => by
      have := sub y (List.mem_cons_of_mem _ hy)
      rw [List.mem_append, List.mem_cons] at this
      rw [List.mem_append]
      rcases this with h | h | h
      · exact .inl h
      · exact absurd (h ▸ hy) nd.1
      · exact .inr h) h2
    exact (ih.cons x).trans List.perm_middle.symm
theorem sum_perm {a b : List Int} (p : a.Perm b) : a.sum = b.sum := by
  induction p with
  | nil => rfl
  | cons x _ ih => rw [List.sum_cons, List.sum_cons, ih]
  | swap x y l => simp only [List.sum_cons]; omega
  | trans _ _ h1 h2 => exact h1.trans h2
end
end TY
namespace TY
open PySem PySem.Spec L2 TL
section
variable {α β γ κ : Type} [DecidableEq κ]
theorem h_alt {Fm Fm' : List T → Option Out} {F : α → Option β} {ea : α → List T} {eb : En β} {o : Bool} (h : HL Fm F ea eb o) : HL (altF Fm Fm') F ea eb o := fun x z e => by
  unfold altF
  rw [h x z e]
theorem h_alt2 {Fm Fm' : T → T → Option Out} {F : α → β → Option γ} {ea : En α} {eb : En β} {eg : En γ} {o : Bool} (h : H2 Fm F ea eb eg o) : H2 (altO Fm Fm') F ea eb eg o := fun x y z e => by
  unfold altO
  rw [h x y z e]
theorem h_lenD {e : En κ} {ev : En α} : HL lenG lenO (eCons (eD e ev) eNil) eI false := fun x z h => by
  cases h
  show some (Out.fz (.int ((encD e ev x.1).length : Int))) = _
  rw [encD_length]; rfl
def keysO (a : List (κ × α)) : Option (List κ) := some (a.map (·.1))
def keysU (a : List (κ × α) × Unit) : Option (List κ) := some (a.1.map (·.1))
theorem keysT_enc (e : En κ) (ev : En α) (d : List (κ × α)) : keysT (encD e ev d) = (d.map (·.1)).map e := by
  unfold keysT encD
  rw [List.map_map, List.map_map]; rfl
theorem h_listD {e : En κ} {ev : En α} : HL listG keysU (eCons (eD e ev) eNil) (eL e) true := fun x z h => by
  cases h
  show some (Out.nw (.list (keysT (encD e ev x.1)))) = _
  rw [keysT_enc]; rfl
section
variable {e : En κ} {ev : En α} [K : KeyS e]
theorem isK_enc (d : List (κ × α)) : isK (encD e ev d) = true := by
  unfold isK encD
  rw [List.all_map, List.all_eq_true]
  intro p _
  show (kOf (e p.1)).isSome = true
  rw [K.ok]; rfl
theorem h_dictD : HL dictT idO (eCons (eD e ev) eNil) (eD e ev) true := fun x z h => by
  cases h
  show (if isK (encD e ev x.1) then some (Out.nw (.dict (encD e ev x.1))) else none) = _
  rw [isK_enc]; rfl
def mkD (ps : List (κ × α)) : List (κ × α) := ps.foldl (fun d p => putD d p.1 p.2) []
theorem pairs_enc : ∀ (ps d : List (κ × α)), pairsT (ps.map (e2 e ev)) (encD e ev d) = some (encD e ev (ps.foldl (fun d p => putD d p.1 p.2) d))
  | [], d => rfl
  | p :: r, d => by
    rw [List.map_cons]
    show (match kOf (e p.1) with | some k' => pairsT (r.map (e2 e ev)) (kPut kOf (e p.1) k' (ev p.2) (encD e ev d)) | none => none) = _
    rw [K.ok]
    simp only []
    rw [kPut_enc K.ok K.inj, pairs_enc r]
    rfl
def mkDU (a : List (κ × α) × Unit) : Option (List (κ × α)) := some (mkD a.1)
theorem h_dictP : HL dictT mkDU (eCons (eL (e2 e ev)) eNil) (eD e ev) true := fun x z h => by
  cases h
  show (match pairsT (x.1.map (e2 e ev)) [] with | some kvs => some (Out.nw (.dict kvs)) | none => none) = _
  have := pairs_enc (e := e) (ev := ev) x.1 []
  rw [show encD e ev ([] : List (κ × α)) = [] from rfl] at this
  rw [this]; rfl
class KeySI (e : En κ) : Prop where
  ok : (∀ a, isStr (e a) = true) ∨ ∀ a, isInt (e a) = true
instance : KeySI eI := ⟨.inr fun _ => rfl⟩
instance : KeySI eS := ⟨.inl fun _ => rfl⟩
def sortDO [Od κ] (a : List (κ × α) × Unit) : Option (List κ) := if a.1.length < 64 then some (srt (a.1.map (·.1))) else none
theorem h_sortD [Od κ] [OdE e] [KeySI e] : HL sortedH sortDO (eCons (eD e ev) eNil) (eL e) true := fun x z h => by
  unfold sortDO at h
  split at h
  · rename_i hl
    cases h
    have hc : (encD e ev x.1).length < 64 ∧ (((encD e ev x.1).all fun p => isStr p.1) = true ∨ ((encD e ev x.1).all fun p => isInt p.1) = true) := by
      refine ⟨by rw [encD_length]; exact hl, ?_⟩
      unfold encD
      rw [List.all_map, List.all_map]
      rcases KeySI.ok (e := e) with h | h
      · exact .inl (List.all_eq_true.mpr fun p _ => h p.1)
      · exact .inr (List.all_eq_true.mpr fun p _ => h p.1)
    show (if (encD e ev x.1).length < 64 ∧ (((encD e ev x.1).all fun p => isStr p.1) = true ∨ ((encD e ev x.1).all fun p => isInt p.1) = true) then some (Out.nw (.list (sortT (keysT (encD e ev x.1))))) else none) = _
    rw [if_pos hc, keysT_enc, sortT_map]; rfl
  · cases h
variable {n : Nat} [DecidableEq α]
def eqDO (a b : List (κ × α)) : Option Bool := some (a.length == b.length && a.all fun p => decide (lookD b p.1 = some p.2))
def neDO (a b : List (κ × α)) : Option Bool := some (!(a.length == b.length && a.all fun p => decide (lookD b p.1 = some p.2)))
theorem okV_enc [Dat ev n] (hn : n ≤ 18) (d : List (κ × α)) : okV (encD e ev d) = true := by
  unfold okV encD
  rw [List.all_map, List.all_eq_true]
  exact fun p _ => Dat.ok p.2 18 hn
theorem dEqA_enc [D0 : Dat ev n] (a b : List (κ × α)) : dEqA (encD e ev b) (encD e ev a) = a.all fun p => decide (lookD b p.1 = some p.2) := by
  unfold dEqA
  rw [show encD e ev a = a.map fun p => (e p.1, ev p.2) from rfl, List.all_map]
  congr 1
  funext p
  show (match kOf (e p.1) with | some k => (match kFind kOf k (encD e ev b) with | some t => PyData.eqv (ev p.2) t | none => false) | none => false) = _
  rw [K.ok]
  simp only []
  rw [kFind_enc K.ok K.inj]
  cases h : lookD b p.1 with
  | none => simp
  | some w =>
    show PyData.eqv (ev p.2) (ev w) = _
    rw [Dat.eqb (n := n)]
    by_cases e : p.2 = w
    · subst e; simp
    · simp [e, Ne.symm e]
theorem h_eqD [Dat ev n] (hn : n ≤ 18 := by decide) : H2 eqG eqDO (eD e ev) (eD e ev) eB false := fun x y z h => by
  cases h
  have e0 : eqT (eD e ev x) (eD e ev y) = none := rfl
  unfold eqG altO
  rw [e0]
  show (if (isK (encD e ev x) && isK (encD e ev y) && okV (encD e ev x) && okV (encD e ev y)) = true then some (Out.fz (.bool ((encD e ev x).length == (encD e ev y).length && dEqA (encD e ev y) (encD e ev x)))) else none) = _
  rw [isK_enc, isK_enc, okV_enc (n := n) hn, okV_enc (n := n) hn, dEqA_enc (n := n), encD_length, encD_length]; rfl
theorem h_neD [Dat ev n] (hn : n ≤ 18 := by decide) : H2 neG neDO (eD e ev) (eD e ev) eB false := fun x y z h => by
  cases h
  have e0 : neT (eD e ev x) (eD e ev y) = none := rfl
  unfold neG altO
  rw [e0]
  show (if (isK (encD e ev x) && isK (encD e ev y) && okV (encD e ev x) && okV (encD e ev y)) = true then some (Out.fz (.bool (!((encD e ev x).length == (encD e ev y).length && dEqA (encD e ev y) (encD e ev x))))) else none) = _
  rw [isK_enc, isK_enc, okV_enc (n := n) hn, okV_enc (n := n) hn, dEqA_enc (n := n), encD_length, encD_length]; rfl
end
end

class ND (e : En α) : Prop where
  nd : ∀ a kvs, e a ≠ .dict kvs
section
variable {α β γ δ ε : Type}
instance : ND eI := ⟨fun _ _ h => by cases h⟩
instance : ND eB := ⟨fun _ _ h => by cases h⟩
instance : ND eN := ⟨fun _ _ h => by cases h⟩
instance : ND eS := ⟨fun _ _ h => by cases h⟩
instance {e : En α} : ND (eL e) := ⟨fun _ _ h => by cases h⟩
instance {e : En α} : ND (eT e) := ⟨fun _ _ h => by cases h⟩
instance {a : En α} : ND (e1 a) := ⟨fun _ _ h => by cases h⟩
instance {a : En α} {b : En β} : ND (e2 a b) := ⟨fun _ _ h => by cases h⟩
instance {a : En α} {b : En β} {c : En γ} : ND (e3 a b c) := ⟨fun _ _ h => by cases h⟩
instance {a : En α} {b : En β} {c : En γ} {d : En δ} : ND (e4 a b c d) := ⟨fun _ _ h => by cases h⟩
instance {a : En α} {b : En β} {c : En γ} {d : En δ} {e : En ε} : ND (e5 a b c d e) := ⟨fun _ _ h => by cases h⟩
instance {e : En α} [ND e] : ND (eO e) := ⟨fun a kvs h => by
  cases a with
  | none => cases h
  | some a => exact ND.nd (e := e) a kvs h⟩
theorem nd_of {S : Type} {V : S → Tab} {i v : Nat} {e : En α} [ND e] {get : S → α} (h : ∀ s, acc (V s) i v = e (get s)) : ∀ (s : S) (kvs : List (T × T)), acc (V s) i v ≠ .dict kvs := fun s kvs z => ND.nd (e := e) (get s) kvs ((h s).symm.trans z)
end
/-! ### walks over a name -/
/-- the keys of the dict that a name holds -/
def iDk (i : Nat) : MI := fun cs => match cs[i]? with
  | some (.fz (.dict kvs)) => some (keysT kvs, cs)
  | some (.ow (.dict kvs)) => some (keysT kvs, cs.set i (.fz (.dict kvs)))
  | _ => none
def abDk (i v : Nat) : AT := fun D => match D[i]? with
  | some (.F w) => if w = v then some D else none
  | some (.O w) => if w = v then some (D.set i (.F v)) else none
  | some (.R w) => if w = v then some (D.set i (.F v)) else none
  | _ => none
/-- the slot is known -/
def abAt (i v : Nat) {ω : Type} (ab : List Dc → Option ω) : List Dc → Option ω := fun D => match D[i]? with
  | some (.F w) => if w = v then ab D else none
  | some (.O w) => if w = v then ab D else none
  | some (.R w) => if w = v then ab D else none
  | some (.B w) => if w = v then ab D else none
  | _ => none
def abFr (i v : Nat) {ω : Type} (ab : List Dc → Option ω) : List Dc → Option ω := fun D => match D[i]? with
  | some (.F w) => if w = v then ab D else none
  | _ => none
section
variable {S α β κ ρ : Type} {V : S → Tab} {m : ME} {mt : MT} {g : MG} {b : MS} {ea : En α} {eb : En β} {ek : En κ} {aba : AE} {abt abg : AT} {i v : Nat} {own ws : List Nat} {hid : Bool}
theorem pi_dk [DecidableEq κ] {get : S → List (κ × α)} (hgt : ∀ s, acc (V s) i v = eD ek ea (get s)) : PI V (iDk i) (pUn keysO (pV get)) ek (abDk i v) := by
  intro D D' hk s c xs s' R hf
  obtain ⟨hf, rfl⟩ := pu_of hf
  cases hf
  have fr : ∀ w, D[i]? = some (.R w) ∨ D[i]? = some (.O w) → w = v → Rep (V s') (D.set i (.F v)) (c.set i (.fz (acc (V s') i v))) := fun w h e => by
    refine R.set ?_ rfl fun _ _ => rfl
    rcases h with h | h <;> exact lt_of_getD h
  have key : keysT (encD ek ea (get s')) = ((get s').map (·.1)).map ek := keysT_enc ek ea _
  unfold abDk at hk
  split at hk
  · rename_i w hd
    split at hk
    · rename_i hw; cases hk; subst hw
      obtain ⟨x, e, o⟩ := R.at hd
      cases o
      rw [hgt] at e
      refine ⟨c, ?_, R, fun _ => ⟨rfl, .refl⟩⟩
      unfold iDk
      rw [e]
      show some (keysT (encD ek ea (get s')), c) = _
      rw [key]
    · cases hk
  · rename_i w hd
    split at hk
    · rename_i hw; cases hk; subst hw
      have F := fr w (.inr hd) rfl
      obtain ⟨x, e, o⟩ := R.at hd
      cases o
      have fz := frz_set e
      rw [hgt] at e F fz
      refine ⟨_, ?_, F, fun _ => ⟨rfl, fz⟩⟩
      unfold iDk
      rw [e]
      show some (keysT (encD ek ea (get s')), _) = _
      rw [key]; rfl
    · cases hk
  · rename_i w hd
    split at hk
    · rename_i hw; cases hk; subst hw
      have F := fr w (.inl hd) rfl
      obtain ⟨x, e, o⟩ := R.at hd
      rcases o with o | o
      · cases o
        rw [hgt] at e F
        have e3 : c.set i (.fz (eD ek ea (get s'))) = c := by
          refine List.ext_getElem? fun j => ?_
          by_cases ne : j = i
          · subst ne; rw [set_at (lt_of_get e), e]
          · rw [set_off ne]
        rw [e3] at F
        refine ⟨c, ?_, F, fun _ => ⟨rfl, .refl⟩⟩
        unfold iDk
        rw [e]
        show some (keysT (encD ek ea (get s')), c) = _
        rw [key]
      · cases o
        have fz := frz_set e
        rw [hgt] at e F fz
        refine ⟨_, ?_, F, fun _ => ⟨rfl, fz⟩⟩
        unfold iDk
        rw [e]
        show some (keysT (encD ek ea (get s')), _) = _
        rw [key]; rfl
    · cases hk
  · cases hk
theorem at_cell {ω : Type} {ab : List Dc → Option ω} {D : List Dc} {z : ω} {M : Tab} {c : Cs} (h : abAt i v ab D = some z) (R : Rep M D c) : ab D = some z ∧ (c[i]? = some (.fz (acc M i v)) ∨ c[i]? = some (.ow (acc M i v)) ∨ c[i]? = some (.bo (acc M i v))) := by
  unfold abAt at h
  split at h
  all_goals (try cases h)
  all_goals
    rename_i w hd
    split at h <;> try (cases h; done)
    · rename_i hw
      subst hw
      obtain ⟨x, e, o⟩ := R.at hd
      refine ⟨h, ?_⟩
      first
        | (cases o; first | exact .inl e | exact .inr (.inl e) | exact .inr (.inr e))
        | (rcases o with o | o <;> cases o <;> first | exact .inl e | exact .inr (.inl e))
theorem fr_cell {ω : Type} {ab : List Dc → Option ω} {D : List Dc} {z : ω} {M : Tab} {c : Cs} (h : abFr i v ab D = some z) (R : Rep M D c) : ab D = some z ∧ c[i]? = some (.fz (acc M i v)) := by
  unfold abFr at h
  split at h
  · rename_i w hd
    split at h
    · rename_i hw
      subst hw
      obtain ⟨x, e, o⟩ := R.at hd
      cases o
      exact ⟨h, e⟩
    · cases h
  · cases h
theorem lcN_list {c : Cs} {t : T} (h : c[i]? = some (.fz t) ∨ c[i]? = some (.ow t) ∨ c[i]? = some (.bo t)) (nd : ∀ kvs, t ≠ .dict kvs) : mLcN hid i own g mt m c = if hid = true then mLcH i own g mt m c else mLc own (iSeq (mV i)) g mt m c := by
  unfold mLcN
  rcases h with h | h | h <;> rw [h]
  · cases t with
    | dict kvs => exact absurd rfl (nd kvs)
    | _ => rfl
  · cases t with
    | dict kvs => exact absurd rfl (nd kvs)
    | _ => rfl
theorem lcN_dict {c : Cs} {kvs : List (T × T)} (h : c[i]? = some (.fz (.dict kvs))) : mLcN hid i own g mt m c = mLc own (iDk i) g mt m c := by
  unfold mLcN mLc iDk
  rw [h]
  have hl : (keysT kvs).length = kvs.length := by unfold keysT; rw [List.length_map]
  show _ = (if (keysT kvs).length ≤ sizeLine then _ else _)
  rw [hl] <;> rfl
theorem forN_list {c : Cs} {t : T} (h : c[i]? = some (.fz t) ∨ c[i]? = some (.ow t) ∨ c[i]? = some (.bo t)) (nd : ∀ kvs, t ≠ .dict kvs) : sForN i g b c = sFor (iSeq (mV i)) g b c := by
  unfold sForN
  rcases h with h | h | h <;> rw [h]
  · cases t with
    | dict kvs => exact absurd rfl (nd kvs)
    | _ => rfl
  · cases t with
    | dict kvs => exact absurd rfl (nd kvs)
    | _ => rfl
theorem forN_dict {c : Cs} {t : T} {kvs : List (T × T)} (h : c[i]? = some (.fz t) ∨ c[i]? = some (.ow t) ∨ c[i]? = some (.bo t)) (hd : t = .dict kvs) (nb : c[i]? ≠ some (.bo t)) : sForN i g b c = sFor (iDk i) g b c := by
  subst hd
  unfold sForN sFor iDk
  rcases h with h | h | h
  · rw [h]
  · rw [h]
  · exact absurd h nb
/-- lists, tuples: as before -/
theorem le_lcN {p : Bool} {f : IX S (List β)} {ab : AE} (hgt : ∀ (s : S) (kvs : List (T × T)), acc (V s) i v ≠ .dict kvs) (h : LE V (mLc own (iSeq (mV i)) g mt m) f (eL eb) ab p) : LE V (mLcN false i own g mt m) f (eL eb) (abAt i v ab) p := by
  intro D D' k hk s c ys s' R hf
  obtain ⟨h1, h2⟩ := at_cell hk R
  rw [lcN_list h2 (hgt s)]
  exact h D D' k h1 s c ys s' R hf
theorem pl_lcNH {f : PX S (List β)} {ab : AE} (hgt : ∀ (s : S) (kvs : List (T × T)), acc (V s) i v ≠ .dict kvs) (h : PL V (mLcH i own g mt m) f (eL eb) ab) : PL V (mLcN true i own g mt m) f (eL eb) (abAt i v ab) := by
  intro D D' k hk s c ys s' R hf
  obtain ⟨h1, h2⟩ := at_cell hk R
  rw [lcN_list h2 (hgt s)]
  exact h D D' k h1 s c ys s' R hf
theorem le_lcND {p : Bool} {f : IX S (List β)} {ab : AE} {get : S → List (κ × α)} (hgt : ∀ s, acc (V s) i v = eD ek ea (get s)) (h : LE V (mLc own (iDk i) g mt m) f (eL eb) ab p) : LE V (mLcN hid i own g mt m) f (eL eb) (abFr i v ab) p := by
  intro D D' k hk s c ys s' R hf
  obtain ⟨h1, h2⟩ := fr_cell hk R
  rw [hgt] at h2
  rw [lcN_dict h2]
  exact h D D' k h1 s c ys s' R hf
theorem ls_forN {R0 : Type} {er : En R0} {f : SX S R0} {ab : AS} (hgt : ∀ (s : S) (kvs : List (T × T)), acc (V s) i v ≠ .dict kvs) (h : LS V (sFor (iSeq (mV i)) g b) f er ab) : LS V (sForN i g b) f er (abAt i v ab) := by
  intro D sd hk s c fl s' R hf
  obtain ⟨h1, h2⟩ := at_cell hk R
  rw [forN_list h2 (hgt s)]
  exact h D sd h1 s c fl s' R hf
def abNb (i v : Nat) {ω : Type} (ab : List Dc → Option ω) : List Dc → Option ω := fun D => match D[i]? with
  | some (.F w) => if w = v then ab D else none
  | some (.O w) => if w = v then ab D else none
  | some (.R w) => if w = v then ab D else none
  | _ => none
theorem nb_cell {ω : Type} {ab : List Dc → Option ω} {D : List Dc} {z : ω} {M : Tab} {c : Cs} (h : abNb i v ab D = some z) (R : Rep M D c) : ab D = some z ∧ (c[i]? = some (.fz (acc M i v)) ∨ c[i]? = some (.ow (acc M i v)) ∨ c[i]? = some (.bo (acc M i v))) ∧ c[i]? ≠ some (.bo (acc M i v)) := by
  unfold abNb at h
  split at h
  all_goals (try cases h)
  all_goals
    rename_i w hd
    split at h <;> try (cases h; done)
    · rename_i hw
      subst hw
      obtain ⟨x, e, o⟩ := R.at hd
      first
        | (cases o; first | exact ⟨h, .inl e, by rw [e]; simp⟩ | exact ⟨h, .inr (.inl e), by rw [e]; simp⟩)
        | (rcases o with o | o <;> cases o <;> first | exact ⟨h, .inl e, by rw [e]; simp⟩ | exact ⟨h, .inr (.inl e), by rw [e]; simp⟩)
theorem ls_forND {R0 : Type} {er : En R0} {f : SX S R0} {ab : AS} {get : S → List (κ × α)} (hgt : ∀ s, acc (V s) i v = eD ek ea (get s)) (h : LS V (sFor (iDk i) g b) f er ab) : LS V (sForN i g b) f er (abNb i v ab) := by
  intro D sd hk s c fl s' R hf
  obtain ⟨h1, h2, h3⟩ := nb_cell hk R
  rw [hgt] at h2 h3
  rw [forN_dict h2 rfl h3]
  exact h D sd h1 s c fl s' R hf
end
end TY
namespace TY
open PySem PySem.Spec L2 TL
/-! ### dicts: what is looked up -/
section
variable {κ α β : Type} [DecidableEq κ] {d d' : List (κ × α)} {k j : κ} {v : α}
theorem lookD_map : ∀ d : List (κ × α), lookD (d.map fun p => if p.1 = k then (p.1, v) else p) j = if k = j then (lookD d j).map (fun _ => v) else lookD d j
  | [] => by simp [lookD]
  | (a, w) :: r => by
    rw [List.map_cons]
    have ih := lookD_map r
    by_cases ha : a = k
    · rw [if_pos ha, lookD, ih, lookD]
      by_cases hj : a = j
      · rw [if_pos hj, if_pos hj, if_pos (ha.symm.trans hj)]; rfl
      · rw [if_neg hj, if_neg hj, if_neg (fun z => hj (ha.trans z))]
    · rw [if_neg ha, lookD, ih, lookD]
      by_cases hj : a = j
      · rw [if_pos hj, if_pos hj, if_neg (fun z => ha (hj.trans z.symm))]
      · rw [if_neg hj, if_neg hj]
theorem lookD_snoc : ∀ d : List (κ × α), lookD (d ++ [(k, v)]) j = (lookD d j).or (if k = j then some v else none)
  | [] => by simp [lookD]
  | (a, w) :: r => by
    rw [List.cons_append, lookD, lookD_snoc r, lookD]
    by_cases hj : a = j
    · rw [if_pos hj, if_pos hj]; rfl
    · rw [if_neg hj, if_neg hj]
theorem lookD_put (d : List (κ × α)) (k j : κ) (v : α) : lookD (putD d k v) j = if k = j then some v else lookD d j := by
  unfold putD
  cases h : lookD d k with
  | none =>
    rw [if_neg (by simp), lookD_snoc]
    by_cases e : k = j
    · subst e; rw [if_pos rfl, if_pos rfl, h]; rfl
    · rw [if_neg e, if_neg e]; cases lookD d j <;> rfl
  | some w =>
    rw [if_pos (by simp), lookD_map]
    by_cases e : k = j
    · subst e; rw [if_pos rfl, if_pos rfl, h]; rfl
    · rw [if_neg e, if_neg e]
theorem lookD_key : ∀ d : List (κ × α), (lookD d k).isSome = true ↔ k ∈ d.map (·.1)
  | [] => by simp [lookD]
  | (a, w) :: r => by
    rw [lookD, List.map_cons, List.mem_cons]
    by_cases h : a = k
    · subst h; simp
    · rw [if_neg h, lookD_key r]
      exact ⟨.inr, fun z => z.resolve_left fun e => h e.symm⟩
theorem lookD_no : lookD d k = none ↔ k ∉ d.map (·.1) := by
  rw [← lookD_key]; cases lookD d k <;> simp
theorem keys_put (d : List (κ × α)) (k : κ) (v : α) : (putD d k v).map (·.1) = if k ∈ d.map (·.1) then d.map (·.1) else d.map (·.1) ++ [k] := by
  unfold putD
  by_cases h : k ∈ d.map (·.1)
  · rw [if_pos (lookD_key d |>.mpr h), if_pos h, List.map_map]
    refine List.map_congr_left fun p _ => ?_
    show (if p.1 = k then (p.1, v) else p).1 = p.1
    split <;> rfl
  · have e := lookD_no.mpr h
    rw [if_neg (by rw [e]; simp), if_neg h, List.map_append]; rfl
theorem nodup_put (h : (d.map (·.1)).Nodup) (k : κ) (v : α) : ((putD d k v).map (·.1)).Nodup := by
  rw [keys_put]
  split
  · exact h
  · rename_i n
    rw [List.nodup_append]
    exact ⟨h, by simp, fun a ha b hb e => n (by simp at hb; rw [← hb, ← e]; exact ha)⟩
theorem length_put (d : List (κ × α)) (k : κ) (v : α) : (putD d k v).length ≤ d.length + 1 := by
  unfold putD
  split
  · rw [List.length_map]; omega
  · rw [List.length_append]; simp
theorem lookD_mem' : ∀ {d : List (κ × α)}, (d.map (·.1)).Nodup → ∀ p ∈ d, lookD d p.1 = some p.2
  | [], _, p, h => by cases h
  | q :: r, nd, p, h => by
    rw [List.map_cons, List.nodup_cons] at nd
    obtain ⟨a, w⟩ := q
    rcases List.mem_cons.mp h with rfl | h
    · rw [lookD, if_pos rfl]
    · rw [lookD, if_neg (fun e : a = p.1 => nd.1 (by show a ∈ _; rw [e]; exact List.mem_map_of_mem (f := (·.1)) h)), lookD_mem' nd.2 p h]
theorem mem_lookD : ∀ {d : List (κ × α)}, lookD d k = some v → (k, v) ∈ d
  | [], h => by cases h
  | (a, w) :: r, h => by
    rw [lookD] at h
    split at h
    · rename_i e; cases h; subst e; exact List.mem_cons_self
    · exact List.mem_cons_of_mem _ (mem_lookD h)
theorem eqD_of [DecidableEq α] (nd : (d.map (·.1)).Nodup) (nd' : (d'.map (·.1)).Nodup) (h : ∀ k, lookD d k = lookD d' k) : (d.length == d'.length && d.all fun p => decide (lookD d' p.1 = some p.2)) = true := by
  have p : (d.map (·.1)).Perm (d'.map (·.1)) := (List.perm_ext_iff_of_nodup nd nd').mpr fun k => by rw [← lookD_key, ← lookD_key, h]
  have l := p.length_eq
  rw [List.length_map, List.length_map] at l
  rw [Bool.and_eq_true]
  refine ⟨by simp [l], List.all_eq_true.mpr fun q hq => decide_eq_true ?_⟩
  rw [← h, lookD_mem' nd q hq]
theorem keysPerm (nd : (d.map (·.1)).Nodup) (nd' : (d'.map (·.1)).Nodup) (h : ∀ k, (lookD d k).isSome = (lookD d' k).isSome) : (d.map (·.1)).Perm (d'.map (·.1)) :=
  (List.perm_ext_iff_of_nodup nd nd').mpr fun k => by rw [← lookD_key, ← lookD_key, h]
end
/-- d tells how often each f x is among xs -/
structure CntD {κ α : Type} [DecidableEq κ] (f : α → κ) (d : List (κ × Int)) (xs : List α) : Prop where
  nd : (d.map (·.1)).Nodup
  len : d.length ≤ xs.length
  look : ∀ k, lookD d k = if (xs.countP fun x => decide (f x = k)) = 0 then none else some ((xs.countP fun x => decide (f x = k) : Nat) : Int)
section
variable {κ α : Type} [DecidableEq κ] {f : α → κ} {d : List (κ × Int)} {xs : List α}
theorem CntD.nil : CntD f [] [] := ⟨.nil, Nat.le_refl _, fun k => by simp [lookD]⟩
theorem CntD.getD (h : CntD f d xs) (k : κ) : (lookD d k).getD 0 = ((xs.countP fun x => decide (f x = k) : Nat) : Int) := by
  rw [h.look]
  split
  · rename_i e; rw [e]; rfl
  · rfl
theorem CntD.snoc (h : CntD f d xs) (x : α) : CntD f (putD d (f x) ((lookD d (f x)).getD 0 + 1)) (xs ++ [x]) := by
  refine ⟨nodup_put h.nd _ _, ?_, fun k => ?_⟩
  · have := length_put d (f x) ((lookD d (f x)).getD 0 + 1)
    have := h.len
    rw [List.length_append, List.length_singleton]; omega
  · rw [lookD_put, h.getD, List.countP_append]
    by_cases e : f x = k
    · subst e
      rw [if_pos rfl]
      simp
    · rw [if_neg e, h.look]
      have e1 : List.countP (fun x => decide (f x = k)) [x] = 0 := by simp [e]
      rw [e1, Nat.add_zero]
theorem CntD.mem (h : CntD f d xs) {k : κ} : k ∈ d.map (·.1) ↔ ∃ x ∈ xs, f x = k := by
  rw [← lookD_key, h.look]
  have e : (xs.countP fun x => decide (f x = k)) = 0 ↔ ¬ ∃ x ∈ xs, f x = k := by
    rw [List.countP_eq_zero]
    simp
  by_cases z : (xs.countP fun x => decide (f x = k)) = 0
  · rw [if_pos z]; simpa using e.mp z
  · rw [if_neg z]
    exact ⟨fun _ => Classical.byContradiction fun w => z (e.mpr w), fun _ => rfl⟩
end
section
variable {κ α : Type} [DecidableEq κ]
theorem o_keysO {QL : List κ → Prop} {d : List (κ × α)} : Pw (keysO d) QL ↔ QL (d.map (·.1)) := pw_some
theorem o_keysU {QL : List κ → Prop} {d : List (κ × α)} {u : Unit} : Pw (keysU (d, u)) QL ↔ QL (d.map (·.1)) := pw_some
theorem o_mkDU {QD : List (κ × α) → Prop} {d : List (κ × α)} {u : Unit} : Pw (mkDU (d, u)) QD ↔ QD (mkD d) := pw_some
theorem o_sortDO [Od κ] {QL : List κ → Prop} {d : List (κ × α)} {u : Unit} : Pw (sortDO (d, u)) QL ↔ d.length < 64 ∧ QL (srt (d.map (·.1))) := pw_ite
theorem o_eqDO [DecidableEq α] {QB : Bool → Prop} {a b : List (κ × α)} : Pw (eqDO a b) QB ↔ QB (a.length == b.length && a.all fun p => decide (lookD b p.1 = some p.2)) := pw_some
theorem o_neDO [DecidableEq α] {QB : Bool → Prop} {a b : List (κ × α)} : Pw (neDO a b) QB ↔ QB (!(a.length == b.length && a.all fun p => decide (lookD b p.1 = some p.2))) := pw_some
theorem o_atD {QV : α → Prop} {d : List (κ × α)} {k : κ} : Pw (atD d k) QV ↔ Pw (lookD d k) QV := Iff.rfl
end
/-- in a row that rises: those that an upward closed test lets -/
theorem sorted_countP {α : Type} {le : α → α → Prop} {p : α → Bool} (hp : ∀ x y, le x y → p y = true → p x = true) : ∀ {l : List α}, l.Pairwise le → ∀ (i : Nat) (hi : i < l.length), p l[i] = true ↔ i < l.countP p
  | [], _, i, hi => by simp at hi
  | a :: r, h, i, hi => by
    rw [List.pairwise_cons] at h
    rw [List.countP_cons]
    cases i with
    | zero =>
      rw [List.getElem_cons_zero]
      constructor
      · intro q; rw [if_pos q]; omega
      · intro q
        by_cases e : p a = true
        · exact e
        · exfalso
          rw [if_neg e] at q
          have : r.countP p = 0 := List.countP_eq_zero.mpr fun x hx z => e (hp a x (h.1 x hx) z)
          omega
    | succ i =>
      rw [List.getElem_cons_succ, sorted_countP hp h.2 i (by simpa using hi)]
      have hi' : i < r.length := by simpa using hi
      by_cases e : p a = true
      · rw [if_pos e]; omega
      · rw [if_neg e]
        have : r.countP p = 0 := List.countP_eq_zero.mpr fun x hx z => e (hp a x (h.1 x hx) z)
        omega
section
variable {α : Type}
theorem cutL_take (xs : List α) (k : Nat) : cutL xs none (some (k : Int)) = xs.take k := by
  unfold cutL
  rw [HT.sIx_none, HT.sIx_nat, List.drop_zero, Nat.sub_zero, List.take_eq_take_iff]
  omega
theorem cutL_drop (xs : List α) (k : Nat) : cutL xs (some (k : Int)) none = xs.drop k := by
  unfold cutL
  rw [HT.sIx_none, HT.sIx_nat]
  by_cases h : k ≤ xs.length
  · rw [show min k xs.length = k by omega, List.take_of_length_le (by rw [List.length_drop]; omega)]
  · rw [show min k xs.length = xs.length by omega, List.drop_length, List.drop_eq_nil_of_le (by omega)]; simp
theorem rng_getElem {a b : Int} {k : Nat} (h : k < (rng a b).length) : (rng a b)[k] = a + k := by
  simp only [rng, List.getElem_map, List.getElem_range]
end
section
variable {S α β : Type}
theorem ew_lcI0 {set : α → S → S} {c : IX S Bool} {e : IX S β} {xs : List α} {s : S} {QL : List β → S → Prop} (I : List β → List α → S → Prop) (h0 : I [] xs s) (h : ∀ x r ys s, I ys (x :: r) s → Ew (c (set x s)) fun b s1 => if b = true then Ew (e s1) fun y s2 => I (ys ++ [y]) r s2 else I ys r s1) (k : ∀ ys s, I ys [] s → QL ys s) : Ew (lcI set c e xs s) QL :=
  ew_lcI I xs [] s h0 h k
end
end TY
namespace TY
open PySem PySem.Spec L2 TL
/-! ### _law_same: alike, and shown alike -/
def okR (t : T) : Bool := okD 18 t && t.showable && decide (t.shown.length ≤ sizeLine)
def tSame : MS := (sRet (mAndV (mOp eqG (mV 0) (mV 1)) (mOp eqG (mCall reprT (mCons (mV 0) mNil)) (mCall reprT (mCons (mV 1) mNil)))))
section
variable {α : Type} [DecidableEq α]
def sameO (e : En α) (a : α × α × Unit) : Option Bool := if a.1 = a.2.1 then (if okR (e a.1) = true then some true else none) else some false
theorem eqG_str (x : Str) : eqG (.str x) (.str x) = some (.fz (.bool true)) := by
  unfold eqG altO eqT
  by_cases h : (okD 20 (.str x) && okD 20 (.str x)) = true
  · rw [if_pos h]
    simp [PyData.eqv]
  · rw [if_neg h]
    simp [eqDk]
theorem fn_same {e : En α} {n : Nat} [Dat e n] {F : FN} (hF : F = runF 0 tSame) (hn : n ≤ 18 := by decide) : FnP F (sameO e) (eCons e (eCons e eNil)) eB .F := by
  intro a b h
  subst hF
  obtain ⟨x, y, u⟩ := a
  unfold sameO at h
  have eq1 : ∀ z : α, eqG (e x) (e z) = some (.fz (.bool (decide (x = z)))) := fun z => by
    unfold eqG altO eqT
    rw [Dat.ok x 20 (by omega), Dat.ok z 20 (by omega), Dat.eqb]; rfl
  split at h
  · rename_i hxy
    have hxy : x = y := hxy
    subst hxy
    split at h
    · rename_i ok
      cases h
      have r : reprT [e x] = some (.fz (.str (e x).shown)) := by
        show (if okR (e x) = true then some (Out.fz (.str (e x).shown)) else none) = _
        exact if_pos ok
      refine ⟨.fz (.bool true), [.fz (e x), .fz (e x)], ?_, rfl⟩
      show runF 0 tSame [.fz (e x), .fz (e x)] = _
      have e1 : eqG (e x) (e x) = some (.fz (.bool true)) := by rw [eq1, decide_eq_true rfl]
      simp [runF, tSame, sRet, mAndV, mOp, mCall, mCons, mNil, mV, e1, r, eqG_str, asB, Out.rs, TL.pk, pks, outOf]
    · cases h
  · rename_i hxy
    have hxy : ¬ x = y := hxy
    cases h
    refine ⟨.fz (.bool false), [.fz (e x), .fz (e y)], ?_, rfl⟩
    show runF 0 tSame [.fz (e x), .fz (e y)] = _
    have e1 : eqG (e x) (e y) = some (.fz (.bool false)) := by rw [eq1, decide_eq_false hxy]
    simp [runF, tSame, sRet, mAndV, mOp, mCall, mCons, mNil, mV, e1, asB, Out.rs, TL.pk, pks, outOf]
end
end TY
namespace TY
open PySem PySem.Spec L2 TL
/-! ### data with no dict in it -/
class Flat {α : Type} (e : En α) : Prop where
  fl : ∀ a, noDict (e a) = true
section
variable {α β γ δ ε : Type}
theorem noDicts_map {e : En α} [Flat e] : ∀ xs : List α, noDicts (xs.map e) = true
  | [] => rfl
  | x :: xs => by
    show (noDict (e x) && noDicts (xs.map e)) = true
    rw [Flat.fl x, noDicts_map xs]; rfl
instance : Flat eI := ⟨fun _ => rfl⟩
instance : Flat eB := ⟨fun _ => rfl⟩
instance : Flat eN := ⟨fun _ => rfl⟩
instance : Flat eS := ⟨fun _ => rfl⟩
instance {e : En α} [Flat e] : Flat (eL e) := ⟨fun xs => noDicts_map xs⟩
instance {e : En α} [Flat e] : Flat (eT e) := ⟨fun xs => noDicts_map xs⟩
instance {e : En α} [Flat e] : Flat (eO e) := ⟨fun a => by cases a with | none => rfl | some a => exact Flat.fl (e := e) a⟩
instance {a : En α} [Flat a] : Flat (e1 a) := ⟨fun x => by show (noDict (a x) && true) = true; rw [Flat.fl]; rfl⟩
instance {a : En α} {b : En β} [Flat a] [Flat b] : Flat (e2 a b) := ⟨fun x => by show (noDict (a x.1) && (noDict (b x.2) && true)) = true; rw [Flat.fl, Flat.fl]; rfl⟩
instance {a : En α} {b : En β} {c : En γ} [Flat a] [Flat b] [Flat c] : Flat (e3 a b c) := ⟨fun x => by show (noDict (a x.1) && (noDict (b x.2.1) && (noDict (c x.2.2) && true))) = true; rw [Flat.fl, Flat.fl, Flat.fl]; rfl⟩
instance {a : En α} {b : En β} {c : En γ} {d : En δ} [Flat a] [Flat b] [Flat c] [Flat d] : Flat (e4 a b c d) := ⟨fun x => by show (noDict (a x.1) && (noDict (b x.2.1) && (noDict (c x.2.2.1) && (noDict (d x.2.2.2) && true)))) = true; rw [Flat.fl, Flat.fl, Flat.fl, Flat.fl]; rfl⟩
end
/-! ### over an own dict that the parts may name -/
def maskD (D : List Dc) : List Dc := D.map fun d => match d with
  | .F v => .F v
  | _ => .X
theorem Rep.mask {M : Tab} {D : List Dc} {c : Cs} (r : Rep M D c) : Rep M (maskD D) (maskC c) := by
  refine ⟨by unfold maskD maskC; rw [List.length_map, List.length_map]; exact r.1, fun i d e => ?_⟩
  unfold maskD at e
  rw [List.getElem?_map] at e
  cases h : D[i]? with
  | none => rw [h] at e; cases e
  | some d0 =>
    rw [h] at e; cases e
    obtain ⟨x, e1, o⟩ := r.2 i d0 h
    refine ⟨_, by rw [maskC_get, e1]; rfl, ?_⟩
    cases d0 with
    | F v => cases o; rfl
    | X => intro u z; cases x <;> cases z
    | R v => intro u z; cases x <;> cases z
    | O v => intro u z; cases x <;> cases z
    | B v => intro u z; cases x <;> cases z
def abLcD (i v : Nat) (own : List Nat) (abg abt : AT) (abe : AE) : AE := fun D => match D[i]? with
  | some (.F w) => if w = v then abLc own (abDk i v) abg abt abe D else none
  | some (.O w) => if w = v then match headD (lcStep own abg abt abe) (wipeD ((maskD D).set i (.F v)) own) with
      | some _ => some (D, .N)
      | none => none
    else none
  | _ => none
section
variable {S α β κ : Type} [DecidableEq κ] {V : S → Tab} {m : ME} {mt : MT} {g : MG} {ea : En α} {eb : En β} {ek : En κ} {aba : AE} {abt abg : AT} {i v : Nat} {own ws : List Nat} {hid : Bool}
theorem pl_lcD [Flat eb] {get : S → List (κ × α)} {set : κ → S → S} {ft : PX S Bool} {fe : PX S β} (hgt : ∀ s, acc (V s) i v = eD ek ea (get s)) (hg : LG V g set ek abg ws) (ht : PT V mt ft abt) (he : PL V m fe eb aba) (hw : ∀ j ∈ ws, j ∈ own) :
    PL V (mLcN hid i own g mt m) (pLc (pUn keysO (pV get)) set ft fe) (eL eb) (abLcD i v own abg abt aba) := by
  intro D D' k hk s c ys s' R hf
  unfold abLcD at hk
  split at hk
  · rename_i w hdi
    split at hk
    · rename_i hw'
      subst hw'
      obtain ⟨x, ec, ox⟩ := R.at hdi
      cases ox
      rw [hgt] at ec
      rw [lcN_dict ec]
      exact pl_lc (own := own) (fe := fe) (ft := ft) (set := set) (pi_dk hgt) hg ht he hw D D' k hk s c ys s' R hf
    · cases hk
  · rename_i w hdi
    split at hk
    · rename_i hw'
      subst hw'
      split at hk
      · rename_i H hh
        cases hk
        obtain ⟨hf, rfl⟩ := pu_of hf
        have hf : (if ((get s').map (·.1)).length ≤ sizeLine then lcO (fun x => ft (set x s')) (fun x => fe (set x s')) ((get s').map (·.1)) else none) = some ys := hf
        split at hf
        · rename_i hlen
          obtain ⟨x, ec, ox⟩ := R.at hdi
          cases ox
          rw [hgt] at ec
          have hi := lt_of_getD hdi
          have hi' : i < (maskD D).length := by unfold maskD; rw [List.length_map]; exact hi
          have Rh : Rep (V s') ((maskD D).set i (.F w)) ((maskC c).set i (.fz (eD ek ea (get s')))) := (Rep.mask R).set hi' (by show _ = _; rw [hgt]) fun _ _ => rfl
          obtain ⟨hle, outs, hs, ho⟩ := headD_ok hh
          unfold lcStep at hs
          split at hs
          · rename_i Da ha
            split at hs
            · rename_i Db hb
              split at hs
              · rename_i Dd kd hd
                split at hs
                · rename_i De hde
                  cases hs
                  have o1 := ho _ List.mem_cons_self
                  have o2 := ho _ (List.mem_cons_of_mem _ List.mem_cons_self)
                  obtain ⟨c2, e2, R2, F2⟩ := lcO_run hg ht he hw ha hb hd hde o1 o2 s' ((get s').map (·.1)) ys _ ((Rh.wipe own).le hle) hf
                  refine ⟨.nw (.list (ys.map eb)), c, ?_, R, rfl, fun _ => ⟨rfl, .refl⟩⟩
                  have e3 : keysT (encD ek ea (get s')) = ((get s').map (·.1)).map ek := keysT_enc ek ea _
                  have hl2 : (encD ek ea (get s')).length ≤ sizeLine := by rw [encD_length]; rw [List.length_map] at hlen; exact hlen
                  unfold mLcN
                  rw [ec]
                  show (if (encD ek ea (get s')).length ≤ sizeLine then match mLcL own g mt m (keysT (encD ek ea (get s'))) (wipeC ((maskC c).set i (.fz (eD ek ea (get s')))) own) with
                    | some (ys, _) => if noDicts ys then some (Rs.nw (.list ys), c) else none
                    | none => none else none) = _
                  rw [if_pos hl2, e3, e2]
                  simp only []
                  rw [if_pos (noDicts_map ys)]
                · cases hs
              · cases hs
            · cases hs
          · cases hs
        · cases hf
      · cases hk
    · cases hk
  · cases hk
end
/-! ### slices whose bounds change the state -/
def iPart (f : Option (IX S Int)) : IX S (Option Int) := fun s => match f with
  | none => some (none, s)
  | some f => (f s).map fun x => (some x.1, x.2)
section
variable {S α : Type} {V : S → Tab} {ma : ME} {ea : En α} {aba : AE} {pa : Bool}
def iSlI (a : IX S (List α)) (lo hi : Option (IX S Int)) : IX S (List α) := fun s => (a s).bind fun x => (iPart lo x.2).bind fun l => (iPart hi l.2).map fun h => (cutL x.1 l.1 h.1, h.2)
def SOI (V : S → Tab) (mo' : Option ME) (f : Option (IX S Int)) (ab : Option AE) : Prop := match mo', f, ab with
  | none, none, none => True
  | some m, some f, some ab => ∃ p, LE V m f eI ab p
  | _, _, _ => False
theorem soi_n : SOI V none none none := trivial
theorem soi_s {m : ME} {f : IX S Int} {ab : AE} {p : Bool} (h : LE V m f eI ab p) : SOI V (some m) (some f) (some ab) := ⟨p, h⟩
theorem soi_run {mo' : Option ME} {f : Option (IX S Int)} {ab : Option AE} (h : SOI V mo' f ab) {D D' : List Dc} (hk : abPart ab D = some D') {s s' : S} {c : Cs} {o : Option Int} (R : Rep (V s) D c) (hf : iPart f s = some (o, s')) :
    ∃ c', partO mo' c = some (o, c') ∧ Rep (V s') D' c' := by
  cases mo' with
  | none =>
    cases f with
    | none =>
      cases ab with
      | none => cases hk; cases hf; exact ⟨c, rfl, R⟩
      | some _ => exact h.elim
    | some _ => exact h.elim
  | some m =>
    cases f with
    | none => exact h.elim
    | some f =>
      cases ab with
      | none => exact h.elim
      | some ab =>
        obtain ⟨p, h⟩ := h
        simp only [abPart] at hk
        split at hk
        · rename_i D1 h1
          cases hk
          obtain ⟨⟨x, s2⟩, f1, e⟩ := Option.map_eq_some_iff.mp hf
          cases e
          obtain ⟨r, c1, e1, R1, K1, P1⟩ := h D _ _ h1 s c x s2 R f1
          cases K1
          exact ⟨c1, by simp only [partO, e1, eI], R1⟩
        · cases hk
def abSlI (o : Bool) (a : AE) (lo hi : Option AE) : AE := fun D => match a D with
  | some (D1, k) => if k.val then match abPart lo D1 with
      | some D2 => match abPart hi D2 with
        | some D3 => some (D3, ko o)
        | none => none
      | none => none
    else none
  | none => none
theorem le_slI {fa : IX S (List α)} {e : En (List α)} {o : Bool} (hs : ∀ x l h, slT (e x) l h = some (mo o (e (cutL x l h)))) {ml mh : Option ME} {lo hi : Option (IX S Int)} {bl bh : Option AE} (ha : LE V ma fa e aba pa) (hl : SOI V ml lo bl) (hh : SOI V mh hi bh) : LE V (mSl ma ml mh) (iSlI fa lo hi) e (abSlI o aba bl bh) false := by
  intro D D' kd hk s c z s' Rp hf
  unfold abSlI at hk
  split at hk
  · rename_i D1 k1 h1
    split at hk
    · rename_i hv
      split at hk
      · rename_i D2 h2
        split at hk
        · rename_i D3 h3
          cases hk
          unfold iSlI at hf
          obtain ⟨⟨x, s1⟩, f1, hf⟩ := Option.bind_eq_some_iff.mp hf
          obtain ⟨⟨l, s2⟩, f2, hf⟩ := Option.bind_eq_some_iff.mp hf
          obtain ⟨⟨h, s3⟩, f3, hf⟩ := Option.map_eq_some_iff.mp hf
          cases hf
          obtain ⟨ra, c1, e1, R1, K1, P1⟩ := ha D _ k1 h1 s c x s1 Rp f1
          obtain ⟨c2, e2, R2⟩ := soi_run hl h2 R1 f2
          obtain ⟨c3, e3, R3⟩ := soi_run hh h3 R2 f3
          refine ⟨_, c3, ?_, R3, mo_ok, fun q => by cases q⟩
          rw [mSl_eq, e1]
          simp only [e2, e3, K1.pkv hv, hs]
        · cases hk
      · cases hk
    · cases hk
  · cases hk
theorem le_slIL {fa : IX S (List α)} {ml mh : Option ME} {lo hi : Option (IX S Int)} {bl bh : Option AE} (ha : LE V ma fa (eL ea) aba pa) (hl : SOI V ml lo bl) (hh : SOI V mh hi bh) : LE V (mSl ma ml mh) (iSlI fa lo hi) (eL ea) (abSlI true aba bl bh) false := le_slI sl_L ha hl hh
theorem le_slIT {fa : IX S (List α)} {ml mh : Option ME} {lo hi : Option (IX S Int)} {bl bh : Option AE} (ha : LE V ma fa (eT ea) aba pa) (hl : SOI V ml lo bl) (hh : SOI V mh hi bh) : LE V (mSl ma ml mh) (iSlI fa lo hi) (eT ea) (abSlI false aba bl bh) false := le_slI sl_T ha hl hh
theorem ew_slI {QL : List α → S → Prop} {a : IX S (List α)} {lo hi : Option (IX S Int)} {s : S} : Ew (iSlI a lo hi s) QL ↔ Ew (a s) fun x s1 => Ew (iPart lo s1) fun l s2 => Ew (iPart hi s2) fun h s3 => QL (cutL x l h) s3 := by
  unfold iSlI
  rw [ew_bind]
  simp only [ew_bind, ew_map]
theorem ew_part0 {QL : Option Int → S → Prop} {s : S} : Ew (iPart none s) QL ↔ QL none s := ew_some
theorem ew_part1 {QL : Option Int → S → Prop} {f : IX S Int} {s : S} : Ew (iPart (some f) s) QL ↔ Ew (f s) fun x s1 => QL (some x) s1 := ew_map
end
end TY
namespace TY
open PySem PySem.Spec L2 TL
/-! ### _law_alike of a thing and itself -/
def tAlk (FF : FN) : MS :=
      (sSeq (sIf (asB (mIsi "tuple" (mV 1))) (sSeq (sIf (mtOr (mtNot (asB (mIsi "tuple" (mV 0)))) (asB (mOp neG (mCall lenG (mCons (mV 0) mNil)) (mCall lenG (mCons (mV 1) mNil))))) (sRet (mC (.bool false))) sNil)
      (sRet (mOp eqG (mLc [2] (iRange (mCons (mCall lenG (mCons (mV 1) mNil)) mNil)) (gN 2) (mtNot (asB (mCal FF (mCons (mFz (mOp ixT (mV 0) (mV 2))) (mCons (mFz (mOp ixT (mV 1) (mV 2))) mNil))))) (mV 2)) (mLst mNil)))) sNil)
      (sSeq (sIf (asB (mOp isNT (mV 1) (mC .none))) (sRet (mOp isNT (mV 0) (mC .none))) sNil)
      (sSeq (sIf (asB (mIsi "bool" (mV 1))) (sRet (mAndV (mIsi "bool" (mV 0)) (mOp eqG (mV 0) (mV 1)))) sNil)
      (sSeq (sIf (asB (mIsi "int" (mV 1))) (sRet (mAndV (mIsi "int" (mV 0)) (mAndV (mNotV (mIsi "bool" (mV 0))) (mOp eqG (mV 0) (mV 1))))) sNil)
      (sRet (mAndV (mIsi "str" (mV 0)) (mOp eqG (mV 0) (mV 1))))))))
def alkF : Nat → FN
  | 0 => fun _ => none
  | n + 1 => runF 1 (tAlk (alkF n))
mutual
def alk : Nat → T → Bool
  | _, .none => true
  | _, .bool _ => true
  | _, .int _ => true
  | _, .str _ => true
  | n + 1, .tuple xs => alkA n xs && decide (xs.length ≤ 100000)
  | _, _ => false
def alkA : Nat → List T → Bool
  | _, [] => true
  | n, x :: xs => alk n x && alkA n xs
end
theorem alkA_mem : ∀ {n : Nat} {xs : List T}, alkA n xs = true → ∀ t ∈ xs, alk n t = true
  | _, [], _, t, h => by cases h
  | n, x :: xs, h, t, m => by
    rw [alkA, Bool.and_eq_true] at h
    rcases List.mem_cons.mp m with rfl | m
    · exact h.1
    · exact alkA_mem h.2 t m
theorem eqG_int (i : Int) : eqG (.int i) (.int i) = some (.fz (.bool true)) := by
  simp [eqG, altO, eqT, okD, PyData.eqv]
theorem eqG_bool (b : Bool) : eqG (.bool b) (.bool b) = some (.fz (.bool true)) := by cases b <;> rfl
theorem neG_int (i : Int) : neG (.int i) (.int i) = some (.fz (.bool false)) := by
  simp [neG, altO, neT, okD, PyData.eqv]
theorem alk_loop {FF : FN} {xs : List T} (ih : ∀ t ∈ xs, ∃ c, FF [.fz t, .fz t] = some (.fz (.bool true), c)) : ∀ ks : List T, (∀ k ∈ ks, ∃ j : Nat, j < xs.length ∧ k = .int (j : Int)) →
    mLcL [2] (gN 2) (mtNot (asB (mCal FF (mCons (mFz (mOp ixT (mV 0) (mV 2))) (mCons (mFz (mOp ixT (mV 1) (mV 2))) mNil))))) (mV 2) ks [.fz (.tuple xs), .fz (.tuple xs), .un] = some ([], [.fz (.tuple xs), .fz (.tuple xs), .un])
  | [], _ => rfl
  | k :: ks, h => by
    obtain ⟨j, hj, rfl⟩ := h k List.mem_cons_self
    obtain ⟨c, hc⟩ := ih xs[j] (List.getElem_mem hj)
    have ea : ixT (.tuple xs) (.int (j : Int)) = some (.fz xs[j]) := by
      exact f_ixt (by rw [atT_nat hj, List.getElem?_eq_getElem hj])
    have ih2 := alk_loop ih ks fun k hk => h k (List.mem_cons_of_mem _ hk)
    rw [mLcL]
    simp [gN, setR, mtNot, asB, mCal, mCons, mNil, mFz, mOp, mV, TL.pk, ea, Out.rs, TL.frz, fzs, hc, wipeC]
    exact ih2
theorem rng_it {ms : MA} {cs : Cs} {n : Nat} (h : ms cs = some ([.fz (.int (n : Int))], cs)) (hn : n < 2 ^ 61) : iRange ms cs = some (rngT 0 n, cs) := by
  unfold iRange
  rw [h]
  show (if -(2 ^ 62) ≤ (n : Int) ∧ (n : Int) < 2 ^ 62 then some (rngT 0 (n : Int).toNat, cs) else none) = _
  rw [if_pos ⟨by omega, by omega⟩, Int.toNat_natCast]
theorem alk_int (FF : FN) (i : Int) : runF 1 (tAlk FF) [.fz (.int i), .fz (.int i)] = some (.fz (.bool true), [.fz (.int i), .fz (.int i), .un]) := by
  simp [runF, tAlk, sSeq, sIf, asB, mIsi, mV, TL.pk, tyn, isiB, mOp, isNT, isNo, mC, sNil, sRet, mAndV, mNotV, eqG_int, Out.rs, outOf]
theorem alk_str (FF : FN) (x : Str) : runF 1 (tAlk FF) [.fz (.str x), .fz (.str x)] = some (.fz (.bool true), [.fz (.str x), .fz (.str x), .un]) := by
  simp [runF, tAlk, sSeq, sIf, asB, mIsi, mV, TL.pk, tyn, isiB, mOp, isNT, isNo, mC, sNil, sRet, mAndV, mNotV, eqG_str, Out.rs, outOf]
theorem alk_bool (FF : FN) (b : Bool) : runF 1 (tAlk FF) [.fz (.bool b), .fz (.bool b)] = some (.fz (.bool true), [.fz (.bool b), .fz (.bool b), .un]) := by
  simp [runF, tAlk, sSeq, sIf, asB, mIsi, mV, TL.pk, tyn, isiB, mOp, isNT, isNo, mC, sNil, sRet, mAndV, mNotV, eqG_bool, Out.rs, outOf]
theorem alk_none (FF : FN) : runF 1 (tAlk FF) [.fz .none, .fz .none] = some (.fz (.bool true), [.fz .none, .fz .none, .un]) := by
  simp [runF, tAlk, sSeq, sIf, asB, mIsi, mV, TL.pk, tyn, isiB, mOp, isNT, isNo, mC, sNil, sRet, Out.rs, outOf]
theorem alk_e0 : eqG (.list []) (.list []) = some (.fz (.bool true)) := by
  simp [eqG, altO, eqT, okD, okA, PyData.eqv, PyData.eqvAll]
theorem alk_ls (cs : Cs) : mLst mNil cs = some (.nw (.list []), cs) := by simp [mLst, mNil, fzs]
theorem alk_hl (xs : List T) : lenG [.tuple xs] = some (.fz (.int xs.length)) := by simp [lenG, altF, lenT]
theorem alk_it {xs : List T} (sz : xs.length ≤ 100000) : iRange (mCons (mCall lenG (mCons (mV 1) mNil)) mNil) [.fz (.tuple xs), .fz (.tuple xs), .un] = some (rngT 0 xs.length, [.fz (.tuple xs), .fz (.tuple xs), .un]) := by
  have h : (mCons (mCall lenG (mCons (mV 1) mNil)) mNil : MA) [.fz (.tuple xs), .fz (.tuple xs), .un] = some ([.fz (.int (xs.length : Int))], [.fz (.tuple xs), .fz (.tuple xs), .un]) := rfl
  exact rng_it h (Nat.lt_of_le_of_lt sz (by decide))
theorem mLc_eq {own : List Nat} {mi : MI} {g : MG} {tt : MT} {te : ME} {cs cs1 cs2 : Cs} {ts ys : List T} (h : mi cs = some (ts, cs1)) (hl : ts.length ≤ sizeLine) (h2 : mLcL own g tt te ts (wipeC cs1 own) = some (ys, cs2)) : mLc own mi g tt te cs = some (.nw (.list ys), restC cs1 own cs2) := by
  unfold mLc
  simp only [h, hl, if_true, h2]
theorem alk_lc {FF : FN} {xs : List T} (sz : xs.length ≤ 100000) (ih : ∀ t ∈ xs, ∃ c, FF [.fz t, .fz t] = some (.fz (.bool true), c)) :
    mLc [2] (iRange (mCons (mCall lenG (mCons (mV 1) mNil)) mNil)) (gN 2) (mtNot (asB (mCal FF (mCons (mFz (mOp ixT (mV 0) (mV 2))) (mCons (mFz (mOp ixT (mV 1) (mV 2))) mNil))))) (mV 2) [.fz (.tuple xs), .fz (.tuple xs), .un] = some (.nw (.list []), [.fz (.tuple xs), .fz (.tuple xs), .un]) := by
  have loop := alk_loop ih (rngT 0 xs.length) fun k hk => by
    unfold rngT at hk
    obtain ⟨j, hj, e⟩ := List.mem_map.mp hk
    exact ⟨j, List.mem_range.mp hj, by rw [← e, Int.zero_add]⟩
  have hn : (rngT 0 xs.length).length ≤ sizeLine := by
    unfold rngT
    rw [List.length_map, List.length_range]
    exact Nat.le_trans sz szL
  exact mLc_eq (alk_it sz) hn loop
theorem alk_isi (xs : List T) (i : Nat) (h : i < 2) : asB (mIsi "tuple" (mV i)) [.fz (.tuple xs), .fz (.tuple xs), .un] = some (true, [.fz (.tuple xs), .fz (.tuple xs), .un]) := by
  rcases (show i = 0 ∨ i = 1 by omega) with rfl | rfl <;> simp [asB, mIsi, mV, TL.pk, tyn, isiB]
theorem alk_ln (xs : List T) : asB (mOp neG (mCall lenG (mCons (mV 0) mNil)) (mCall lenG (mCons (mV 1) mNil))) [.fz (.tuple xs), .fz (.tuple xs), .un] = some (false, [.fz (.tuple xs), .fz (.tuple xs), .un]) := by
  simp [asB, mOp, mCall, mCons, mV, mNil, pks, TL.pk, alk_hl, Out.rs, neG_int]
def alkL (FF : FN) : ME := mLc [2] (iRange (mCons (mCall lenG (mCons (mV 1) mNil)) mNil)) (gN 2) (mtNot (asB (mCal FF (mCons (mFz (mOp ixT (mV 0) (mV 2))) (mCons (mFz (mOp ixT (mV 1) (mV 2))) mNil))))) (mV 2)
theorem alk_op {FF : FN} {c : Cs} (h : alkL FF c = some (.nw (.list []), c)) : mOp eqG (alkL FF) (mLst mNil) c = some (.fz (.bool true), c) := by
  unfold mOp
  rw [h]
  simp only [alk_ls, TL.pk, alk_e0, Out.rs]
def alkT (L : ME) : MS := (sSeq (sIf (mtOr (mtNot (asB (mIsi "tuple" (mV 0)))) (asB (mOp neG (mCall lenG (mCons (mV 0) mNil)) (mCall lenG (mCons (mV 1) mNil))))) (sRet (mC (.bool false))) sNil)
      (sRet L))
theorem alk_tt {L : ME} {xs : List T} {r : T} (h : L [.fz (.tuple xs), .fz (.tuple xs), .un] = some (.fz r, [.fz (.tuple xs), .fz (.tuple xs), .un])) : alkT L [.fz (.tuple xs), .fz (.tuple xs), .un] = some (.rt (.fz r), [.fz (.tuple xs), .fz (.tuple xs), .un]) := by
  have t2 : mtOr (mtNot (asB (mIsi "tuple" (mV 0)))) (asB (mOp neG (mCall lenG (mCons (mV 0) mNil)) (mCall lenG (mCons (mV 1) mNil)))) [.fz (.tuple xs), .fz (.tuple xs), .un] = some (false, [.fz (.tuple xs), .fz (.tuple xs), .un]) := by
    simp only [mtOr, mtNot, alk_isi xs 0 (by decide), Bool.not_true, alk_ln]
  unfold alkT sSeq sIf sRet
  simp only [t2, sNil, h, outOf]
theorem alk_sq {t : MT} {a n : MS} {c c' : Cs} {o : Out} (h : t c = some (true, c)) (h2 : a c = some (.rt o, c')) : sSeq (sIf t a sNil) n c = some (.rt o, c') := by
  unfold sSeq sIf
  simp only [h, h2]
theorem alk_run {b : MS} {cs cs' : Cs} {o : Out} (h : b (cs ++ [.un]) = some (.rt o, cs')) : runF 1 b cs = some (o, cs') := by
  unfold runF
  simp only [List.replicate, h]
theorem alk_tup {FF : FN} {xs : List T} (sz : xs.length ≤ 100000) (ih : ∀ t ∈ xs, ∃ c, FF [.fz t, .fz t] = some (.fz (.bool true), c)) : runF 1 (tAlk FF) [.fz (.tuple xs), .fz (.tuple xs)] = some (.fz (.bool true), [.fz (.tuple xs), .fz (.tuple xs), .un]) :=
  alk_run (alk_sq (alk_isi xs 1 (by decide)) (alk_tt (alk_op (alk_lc sz ih))))
theorem alk_ok : ∀ (n : Nat) (t : T), alk n t = true → ∃ c, alkF (n + 1) [.fz t, .fz t] = some (.fz (.bool true), c)
  | _, .none, _ => ⟨_, alk_none _⟩
  | _, .bool b, _ => ⟨_, alk_bool _ b⟩
  | _, .int i, _ => ⟨_, alk_int _ i⟩
  | _, .str x, _ => ⟨_, alk_str _ x⟩
  | n + 1, .tuple xs, h => by
    rw [alk, Bool.and_eq_true, decide_eq_true_eq] at h
    exact ⟨_, alk_tup h.2 fun t m => alk_ok n t (alkA_mem h.1 t m)⟩
  | 0, .tuple _, h => by simp [alk] at h
  | 0, .list _, h => by simp [alk] at h
  | n + 1, .list _, h => by simp [alk] at h
  | 0, .dict _, h => by simp [alk] at h
  | n + 1, .dict _, h => by simp [alk] at h
section
variable {α : Type} [DecidableEq α]
def alikeO (e : En α) (a : α × α × Unit) : Option Bool := if a.1 = a.2.1 ∧ alk 4 (e a.1) = true then some true else none
theorem fn_alike {e : En α} {F : FN} (hF : F = alkF 5) : FnP F (alikeO e) (eCons e (eCons e eNil)) eB .F := by
  intro a b h
  subst hF
  obtain ⟨x, y, u⟩ := a
  unfold alikeO at h
  split at h
  · rename_i hc
    cases h
    obtain ⟨h1, h2⟩ := hc
    have h1 : x = y := h1
    subst h1
    obtain ⟨c, hc⟩ := alk_ok 4 (e x) h2
    exact ⟨.fz (.bool true), c, hc, rfl⟩
  · cases h
theorem o_alikeO {QB : Bool → Prop} {e : En α} {x y : α} {u : Unit} (h : x = y) (k : alk 4 (e x) = true) (q : QB true) : Pw (alikeO e (x, y, u)) QB := ⟨true, if_pos ⟨h, k⟩, q⟩
end
end TY
namespace TY
open PySem PySem.Spec TL
/-! ### plain lemmas: ranges, slices, rows by whole numbers -/
theorem rng_nil {a b : Int} (h : b ≤ a) : rng a b = [] := by
  unfold rng
  rw [show (b - a).toNat = 0 by omega]; rfl
theorem rng_cons {a b : Int} (h : a < b) : rng a b = a :: rng (a + 1) b := by
  unfold rng
  rw [show (b - a).toNat = (b - (a + 1)).toNat + 1 by omega, List.range_succ_eq_map, List.map_cons, List.map_map]
  congr 1
  · omega
  · refine List.map_congr_left fun k _ => ?_
    simp only [Function.comp_apply]; omega
theorem rng_snoc {a b : Int} (h : a ≤ b) : rng a (b + 1) = rng a b ++ [b] := by
  unfold rng
  rw [show (b + 1 - a).toNat = (b - a).toNat + 1 by omega, List.range_succ, List.map_append, List.map_singleton]
  congr 2
  omega
theorem rng_app {a b : Int} (h : a ≤ b) : ∀ n : Nat, rng a (b + n) = rng a b ++ rng b (b + n)
  | 0 => by rw [rng_nil (a := b) (b := b + (0 : Nat)) (by omega), List.append_nil]; congr 1; omega
  | n + 1 => by
    rw [show b + ((n + 1 : Nat) : Int) = b + (n : Int) + 1 by omega, rng_snoc (by omega), rng_snoc (by omega), rng_app h n, List.append_assoc]
theorem rng_split {a b c : Int} (h : a ≤ b) (k : b ≤ c) : rng a c = rng a b ++ rng b c := by
  have := rng_app h (c - b).toNat
  rwa [show b + ((c - b).toNat : Int) = c by omega] at this
theorem rng_sorted (a b : Int) : (rng a b).Pairwise fun x y => x < y := by
  unfold rng
  rw [List.pairwise_map]
  exact List.pairwise_lt_range.imp fun h => by omega
section
variable {α β : Type}
/-- the item at a whole number -/
def gi (d : α) (xs : List α) (i : Int) : α := xs.getD i.toNat d
theorem o_atG {QP : α → Prop} {xs : List α} {i : Int} (d : α) (h : 0 ≤ i ∧ i < xs.length) : Pw (atO xs i) QP ↔ QP (gi d xs i) := o_atI d h
theorem gi_nat {d : α} {xs : List α} {k : Nat} (h : k < xs.length) : gi d xs (k : Int) = xs[k] := by
  unfold gi
  rw [Int.toNat_natCast, List.getD_eq_getElem?_getD, List.getElem?_eq_getElem h]; rfl
theorem gi_mem {d : α} {xs : List α} {i : Int} (h : 0 ≤ i ∧ i < xs.length) : gi d xs i ∈ xs := by
  obtain ⟨k, rfl⟩ : ∃ k : Nat, i = k := ⟨i.toNat, by omega⟩
  rw [gi_nat (by omega)]
  exact List.getElem_mem _
theorem mem_gi {d : α} {xs : List α} {x : α} (h : x ∈ xs) : ∃ i : Int, 0 ≤ i ∧ i < xs.length ∧ gi d xs i = x := by
  obtain ⟨k, hk, rfl⟩ := List.mem_iff_getElem.mp h
  exact ⟨k, by omega, by omega, gi_nat hk⟩
theorem gi_map {f : α → β} {d : α} {d' : β} {xs : List α} {i : Int} (h : 0 ≤ i ∧ i < xs.length) : gi d' (xs.map f) i = f (gi d xs i) := by
  obtain ⟨k, rfl⟩ : ∃ k : Nat, i = k := ⟨i.toNat, by omega⟩
  rw [gi_nat (by rw [List.length_map]; omega), gi_nat (by omega), List.getElem_map]
theorem gi_rng {d a b i : Int} (h : 0 ≤ i ∧ i < b - a) : gi d (rng a b) i = a + i := by
  obtain ⟨k, rfl⟩ : ∃ k : Nat, i = k := ⟨i.toNat, by omega⟩
  rw [gi_nat (by rw [length_rng]; omega), rng_getElem]
theorem map_gi (d : α) (xs : List α) : (rng 0 xs.length).map (gi d xs) = xs := by
  refine List.ext_getElem (by rw [List.length_map, length_rng0]) fun k h1 h2 => ?_
  rw [List.getElem_map, rng_getElem, Int.zero_add, gi_nat h2]
theorem gi_app_l {d : α} {xs ys : List α} {i : Int} (h : 0 ≤ i ∧ i < xs.length) : gi d (xs ++ ys) i = gi d xs i := by
  obtain ⟨k, rfl⟩ : ∃ k : Nat, i = k := ⟨i.toNat, by omega⟩
  rw [gi_nat (by rw [List.length_append]; omega), gi_nat (by omega), List.getElem_append_left]
theorem gi_app_r {d : α} {xs ys : List α} {i : Int} (h : (xs.length : Int) ≤ i) : gi d (xs ++ ys) i = gi d ys (i - xs.length) := by
  unfold gi
  rw [List.getD_eq_getElem?_getD, List.getD_eq_getElem?_getD, List.getElem?_append_right (by omega), show (i - (xs.length : Int)).toNat = i.toNat - xs.length by omega]
theorem gi_ext {d : α} {xs ys : List α} (hl : xs.length = ys.length) (h : ∀ i : Int, 0 ≤ i → i < xs.length → gi d xs i = gi d ys i) : xs = ys := by
  refine List.ext_getElem hl fun k h1 h2 => ?_
  have := h k (by omega) (by omega)
  rwa [gi_nat h1, gi_nat h2] at this
theorem cutL_all (xs : List α) : cutL xs none none = xs := by
  unfold cutL
  rw [HT.sIx_none, HT.sIx_none, List.drop_zero, List.take_of_length_le (by omega)]
theorem cutL_mid (xs : List α) (a b : Nat) : cutL xs (some (a : Int)) (some (b : Int)) = (xs.drop a).take (b - a) := by
  unfold cutL
  rw [HT.sIx_nat, HT.sIx_nat]
  by_cases h : a ≤ xs.length
  · rw [show min a xs.length = a by omega, List.take_eq_take_iff, List.length_drop]; omega
  · rw [show min a xs.length = xs.length by omega, List.drop_length, List.drop_eq_nil_of_le (by omega)]; simp
theorem length_cut {xs : List α} {a b : Int} (h : 0 ≤ a ∧ a ≤ b ∧ b ≤ xs.length) : (cutL xs (some a) (some b)).length = (b - a).toNat := by
  obtain ⟨m, rfl⟩ : ∃ k : Nat, a = k := ⟨a.toNat, by omega⟩
  obtain ⟨n, rfl⟩ : ∃ k : Nat, b = k := ⟨b.toNat, by omega⟩
  rw [cutL_mid, List.length_take, List.length_drop]; omega
theorem gi_cut {d : α} {xs : List α} {a b i : Int} (h : 0 ≤ a ∧ b ≤ xs.length) (hi : 0 ≤ i ∧ i < b - a) : gi d (cutL xs (some a) (some b)) i = gi d xs (a + i) := by
  obtain ⟨m, rfl⟩ : ∃ k : Nat, a = k := ⟨a.toNat, by omega⟩
  obtain ⟨n, rfl⟩ : ∃ k : Nat, b = k := ⟨b.toNat, by omega⟩
  obtain ⟨k, rfl⟩ : ∃ k : Nat, i = k := ⟨i.toNat, by omega⟩
  rw [cutL_mid, gi_nat (by rw [List.length_take, List.length_drop]; omega), List.getElem_take, List.getElem_drop, show (m : Int) + (k : Int) = ((m + k : Nat) : Int) by omega, gi_nat (by omega)]
theorem length_cutD {xs : List α} {a : Int} (h : 0 ≤ a) : (cutL xs (some a) none).length = ((xs.length : Int) - a).toNat := by
  obtain ⟨m, rfl⟩ : ∃ k : Nat, a = k := ⟨a.toNat, by omega⟩
  rw [cutL_drop, List.length_drop]; omega
theorem length_cutT {xs : List α} {b : Int} (h : 0 ≤ b) : (cutL xs none (some b)).length = min b.toNat xs.length := by
  obtain ⟨m, rfl⟩ : ∃ k : Nat, b = k := ⟨b.toNat, by omega⟩
  rw [cutL_take, List.length_take]; omega
/-- a walk that leaves at the first that is so -/
theorem find_cons {p : α → Bool} {x : α} {xs : List α} : (x :: xs).find? p = if p x = true then some x else xs.find? p := by
  rw [List.find?_cons]
  cases h : p x <;> simp
theorem find_rng_spec {p : Int → Bool} {a b x : Int} (h : (rng a b).find? p = some x) : a ≤ x ∧ x < b ∧ p x = true ∧ ∀ y, a ≤ y → y < x → p y = false := by
  have hm := mem_rng.mp (List.mem_of_find?_eq_some h)
  have hp := List.find?_some h
  refine ⟨hm.1, hm.2, hp, fun y h1 h2 => ?_⟩
  rw [rng_split (b := x) hm.1 (by omega), List.find?_append] at h
  cases hq : p y with
  | false => rfl
  | true =>
    exfalso
    cases hf : (rng a x).find? p with
    | none => exact absurd hq (List.find?_eq_none.mp hf y (mem_rng.mpr ⟨h1, h2⟩))
    | some z =>
      rw [hf] at h
      have e : z = x := by simpa using h
      have := mem_rng.mp (List.mem_of_find?_eq_some hf)
      omega
theorem find_rng_none {p : Int → Bool} {a b : Int} (h : (rng a b).find? p = none) : ∀ y, a ≤ y → y < b → p y = false := fun y h1 h2 => by
  have := List.find?_eq_none.mp h y (mem_rng.mpr ⟨h1, h2⟩)
  simpa using this
theorem find_rng_of {p : Int → Bool} {a b x : Int} (h1 : a ≤ x) (h2 : x < b) (h3 : p x = true) (h4 : ∀ y, a ≤ y → y < x → p y = false) : (rng a b).find? p = some x := by
  cases h : (rng a b).find? p with
  | none => have := find_rng_none h x h1 h2; rw [h3] at this; cases this
  | some z =>
    obtain ⟨g1, g2, g3, g4⟩ := find_rng_spec h
    rcases Int.lt_trichotomy z x with k | k | k
    · rw [h4 z g1 k] at g3; cases g3
    · rw [k]
    · rw [g4 x h1 k] at h3; cases h3
theorem filter_head {p : α → Bool} {xs : List α} : (xs.filter p).head? = xs.find? p := List.head?_filter ..
end
section
variable {S α β R : Type} {Q : Fw R → S → Prop} {s : S}
/-- a for-loop that folds -/
theorem tw_fold {set : α → S → S} {b : SX S R} {xs : List α} (I : S → Prop) (g : S → β) (f : β → α → β) (h0 : I s) (h : ∀ x ∈ xs, ∀ s, I s → TW (b (set x s)) (Lpt (fun s' => I s' ∧ g s' = f (g s) x) Q)) (he : ∀ s', I s' → g s' = xs.foldl f (g s) → Q .nx s') : TW (forT set b xs s) Q :=
  tw_forL (fun r s' => (∀ x ∈ r, x ∈ xs) ∧ I s' ∧ r.foldl f (g s') = xs.foldl f (g s)) xs s ⟨fun _ h => h, h0, rfl⟩ (fun x r s' ⟨h1, h2, h3⟩ => (h x (h1 x List.mem_cons_self) s' h2).mono fun fl s'' q => by
    cases fl with
    | nx => exact ⟨fun y hy => h1 y (List.mem_cons_of_mem _ hy), q.1, by rw [q.2, ← h3]; rfl⟩
    | ct => exact ⟨fun y hy => h1 y (List.mem_cons_of_mem _ hy), q.1, by rw [q.2, ← h3]; rfl⟩
    | bk => exact q
    | rt r => exact q) fun s' ⟨_, h2, h3⟩ => he s' h2 h3
/-- a for-loop that puts rows behind a list -/
theorem tw_flat {set : α → S → S} {b : SX S R} {xs : List α} (I : S → Prop) (g : S → List β) (f : α → List β) (h0 : I s) (h : ∀ x ∈ xs, ∀ s', I s' → (g s').length + (f x).length ≤ (g s).length + (xs.flatMap f).length → TW (b (set x s')) (Lpt (fun s'' => I s'' ∧ g s'' = g s' ++ f x) Q)) (he : ∀ s', I s' → g s' = g s ++ xs.flatMap f → Q .nx s') : TW (forT set b xs s) Q :=
  tw_forL (fun r s' => (∀ x ∈ r, x ∈ xs) ∧ I s' ∧ g s' ++ r.flatMap f = g s ++ xs.flatMap f) xs s ⟨fun _ h => h, h0, rfl⟩ (fun x r s' ⟨h1, h2, h3⟩ => (h x (h1 x List.mem_cons_self) s' h2 (by
      have := congrArg List.length h3
      rw [List.flatMap_cons, List.length_append, List.length_append, List.length_append] at this; omega)).mono fun fl s'' q => by
    cases fl with
    | nx => exact ⟨fun y hy => h1 y (List.mem_cons_of_mem _ hy), q.1, by rw [q.2, ← h3, List.flatMap_cons, List.append_assoc]⟩
    | ct => exact ⟨fun y hy => h1 y (List.mem_cons_of_mem _ hy), q.1, by rw [q.2, ← h3, List.flatMap_cons, List.append_assoc]⟩
    | bk => exact q
    | rt r => exact q) fun s' ⟨_, h2, h3⟩ => he s' h2 (by rwa [List.flatMap_nil, List.append_nil] at h3)
theorem flat_le {f : α → List β} {c : Nat} : ∀ {xs : List α}, (∀ x ∈ xs, (f x).length ≤ c) → (xs.flatMap f).length ≤ xs.length * c
  | [], _ => by simp
  | x :: xs, h => by
    have h1 := h x List.mem_cons_self
    have h2 := flat_le (f := f) (c := c) (xs := xs) fun y hy => h y (List.mem_cons_of_mem _ hy)
    rw [List.flatMap_cons, List.length_append, List.length_cons, Nat.succ_mul]; omega
theorem inRg2 {a b : Int} (h : -(2 ^ 62) ≤ a ∧ a < 2 ^ 62) (h' : -(2 ^ 62) ≤ b ∧ b < 2 ^ 62) : (inRg a && inRg b) = true := by rw [inRg_of h, inRg_of h']; rfl
end
/-! ### _law_alike on what is told -/
theorem alk_int' (n : Nat) (i : Int) : alk n (eI i) = true := by cases n <;> rfl
theorem alk_bool' (n : Nat) (b : Bool) : alk n (eB b) = true := by cases n <;> rfl
theorem alk_str' (n : Nat) (x : Tx) : alk n (eS x) = true := by cases n <;> rfl
theorem alk_tup' {α : Type} {e : En α} {n : Nat} {xs : List α} (h : ∀ x ∈ xs, alk n (e x) = true) (hl : xs.length ≤ 100000) : alk (n + 1) (eT e xs) = true := by
  show (alkA n (xs.map e) && decide ((xs.map e).length ≤ 100000)) = true
  rw [List.length_map, decide_eq_true hl, Bool.and_true]
  clear hl
  induction xs with
  | nil => rfl
  | cons a r ih =>
    rw [List.map_cons, alkA, h a List.mem_cons_self, ih fun x hx => h x (List.mem_cons_of_mem _ hx)]; rfl
end TY
namespace K30
open PySem PySem.Spec L2 TL

/-! ### the text, the mirrors -/
def topS (i : Nat) : Stmt := PySem.Challenge.pw_wheretimewent_k30_stretches_that_come_ag.main.body.getD i (.Pass ⟨0, 0, 0, 0⟩)
abbrev s_least_period : Stmt := topS 1
abbrev n_least_period : List Str := ["row", "p", "k"]
def t_least_period : MS :=
      (sSeq (sFor (iRange (mCons (mC (.int 1)) (mCons (mCall lenG (mCons (mV 0) mNil)) mNil))) (gN 1) (sIf (asB (mCall allT (mCons (mLc [2] (iRange (mCons (mOp subT (mCall lenG (mCons (mV 0) mNil)) (mV 1)) mNil)) (gN 2) mtYes (mOp eqG (mOp ixT (mV 0) (mV 2)) (mOp ixT (mV 0) (mOp addT (mV 2) (mV 1))))) mNil))) (sRet (mV 1)) sNil))
      (sRet (mCall max2T (mCons (mC (.int 1)) (mCons (mCall lenG (mCons (mV 0) mNil)) mNil)))))
def m_least_period : FN := runF 2 t_least_period
abbrev s_stretch_from : Stmt := topS 2
abbrev n_stretch_from : List Str := ["row", "begin", "period", "end"]
def t_stretch_from : MS :=
      (sSeq (sSet 3 (mOp addT (mV 1) (mV 2)))
      (sSeq (sWhile fuel (mtAnd (asB (mOp ltG (mV 3) (mCall lenG (mCons (mV 0) mNil)))) (asB (mOp eqG (mOp ixT (mV 0) (mV 3)) (mOp ixT (mV 0) (mOp subT (mV 3) (mV 2)))))) (sAug 3 augT (mC (.int 1))))
      (sRet (mV 3))))
def m_stretch_from : FN := runF 1 t_stretch_from
abbrev s_repeats : Stmt := topS 3
abbrev n_repeats : List Str := ["row", "found", "period", "begin", "end", "starts"]
def t_repeats : MS :=
      (sSeq (sSet 1 (mLst mNil))
      (sSeq (sFor (iRange (mCons (mC (.int 1)) (mCons (mOp addT (mOp divT (mCall lenG (mCons (mV 0) mNil)) (mC (.int 2))) (mC (.int 1))) mNil))) (gN 2) (sSeq (sSet 3 (mC (.int 0)))
      (sWhile fuel (asB (mOp leG (mOp addT (mV 3) (mOp mulI (mC (.int 2)) (mV 2))) (mCall lenG (mCons (mV 0) mNil)))) (sSeq (sSet 4 (mFz (mCal m_stretch_from (mCons (mFz (mV 0)) (mCons (mFz (mV 3)) (mCons (mFz (mV 2)) mNil))))))
      (sSeq (sSet 5 (mOrV (mOp eqG (mV 3) (mC (.int 0))) (mOp neG (mOp ixT (mV 0) (mOp subT (mV 3) (mC (.int 1)))) (mOp ixT (mV 0) (mOp addT (mOp subT (mV 3) (mC (.int 1))) (mV 2))))))
      (sSeq (sIf (mtAnd (asB (mV 5)) (mtAnd (asB (mOp geG (mOp subT (mV 4) (mV 3)) (mOp mulI (mC (.int 2)) (mV 2)))) (asB (mOp eqG (mCal m_least_period (mCons (mFz (mSl (mV 0) (some (mV 3)) (some (mV 4)))) mNil)) (mV 2))))) (sExpr (mMut 1 "list" appT (mCons (mFz (mTup (mCons (mFz (mV 3)) (mCons (mFz (mV 2)) (mCons (mFz (mV 4)) mNil))))) mNil))) sNil)
      (sAug 3 augT (mC (.int 1)))))))))
      (sRet (mCall tupleT (mCons (mCall sortedH (mCons (mV 1) mNil)) mNil)))))
def m_repeats : FN := runF 5 t_repeats
abbrev s_longest_twice : Stmt := topS 4
abbrev n_longest_twice : List Str := ["row", "best", "begin", "other", "many"]
def t_longest_twice : MS :=
      (sSeq (sSet 1 (mTup (mCons (mFz (mC (.int 0))) (mCons (mFz (mC (.int 0))) (mCons (mFz (mC (.int 0))) mNil)))))
      (sSeq (sFor (iRange (mCons (mCall lenG (mCons (mV 0) mNil)) mNil)) (gN 2) (sFor (iRange (mCons (mOp addT (mV 2) (mC (.int 1))) (mCons (mCall lenG (mCons (mV 0) mNil)) mNil))) (gN 3) (sSeq (sSet 4 (mC (.int 0)))
      (sSeq (sWhile fuel (mtAnd (asB (mOp ltG (mOp addT (mV 3) (mV 4)) (mCall lenG (mCons (mV 0) mNil)))) (asB (mOp eqG (mOp ixT (mV 0) (mOp addT (mV 2) (mV 4))) (mOp ixT (mV 0) (mOp addT (mV 3) (mV 4)))))) (sAug 4 augT (mC (.int 1))))
      (sIf (asB (mOp gtG (mV 4) (mOp ixT (mV 1) (mC (.int 2))))) (sSet 1 (mTup (mCons (mFz (mV 2)) (mCons (mFz (mV 3)) (mCons (mFz (mV 4)) mNil))))) sNil)))))
      (sRet (mV 1))))
def m_longest_twice : FN := runF 4 t_longest_twice
abbrev s__law_draws : Stmt := topS 6
abbrev n__law_draws : List Str := ["script", "many", "draws", "mixed", "k", "cell", "rest", "turn"]
def t__law_draws : MS :=
      (sSeq (sSet 2 (mLst mNil))
      (sSeq (sSet 3 (mC (.int 7)))
      (sSeq (sFor (iRange (mCons (mCall lenT (mCons (mV 0) mNil)) mNil)) (gN 4) (sSeq (sSet 5 (mCall absT (mCons (mCall toIntT (mCons (mOp ixT (mV 0) (mV 4)) mNil)) mNil)))
      (sSeq (sSet 3 (mOp modT (mCall toIntT (mCons (mOp addT (mOp addT (mOp mulI (mV 3) (mC (.int 48271))) (mOp modT (mV 5) (mC (.int 1000003)))) (mV 4)) mNil)) (mC (.int 65537))))
      (sSeq (sSet 6 (mC (.int 0)))
      (sSeq (sIf (asB (mOp geI (mV 5) (mOp powT (mC (.int 10)) (mC (.int 18))))) (sSet 6 (mV 5)) (sSeq (sExpr (mMut 2 "list" appT (mCons (mFz (mOp modT (mCall toIntT (mCons (mV 5) mNil)) (mC (.int 997)))) mNil)))
      (sExpr (mMut 2 "list" appT (mCons (mFz (mOp modT (mOp modT (mCall toIntT (mCons (mOp addT (mOp mulI (mV 3) (mC (.int 69621))) (mC (.int 5))) mNil)) (mC (.int 65521))) (mC (.int 997)))) mNil)))))
      (sFor (iRange (mCons (mC (.int 60)) mNil)) (gN 7) (sIf (asB (mOp gtI (mV 6) (mC (.int 0)))) (sSeq (sExpr (mMut 2 "list" appT (mCons (mFz (mOp modT (mCall toIntT (mCons (mV 6) mNil)) (mC (.int 997)))) mNil)))
      (sSet 6 (mOp divT (mV 6) (mC (.int 997))))) sNil)))))))
      (sSeq (sFor (iRange (mCons (mV 1) mNil)) (gN 4) (sSeq (sSet 3 (mOp modT (mCall toIntT (mCons (mOp addT (mOp addT (mOp mulI (mV 3) (mC (.int 16807))) (mV 4)) (mC (.int 1))) mNil)) (mC (.int 65537))))
      (sExpr (mMut 2 "list" appT (mCons (mFz (mOp modT (mCall toIntT (mCons (mV 3) mNil)) (mC (.int 997)))) mNil)))))
      (sRet (mSl (mV 2) none (some (mV 1))))))))
def m__law_draws : FN := runF 6 t__law_draws
abbrev s__law_next : Stmt := topS 7
abbrev n__law_next : List Str := ["w", "many"]
def t__law_next : MS :=
      (sSeq (sAugIx 0 getT augT putT (mC (.str "at")) (mC (.int 1)))
      (sSeq (sIf (asB (mOp gtI (mOp ixT (mV 0) (mC (.str "at"))) (mCall lenT (mCons (mOp ixT (mV 0) (mC (.str "draws"))) mNil)))) (sRet (mC (.int 0))) sNil)
      (sRet (mOp modT (mCall toIntT (mCons (mOp ixT (mOp ixT (mV 0) (mC (.str "draws"))) (mOp subT (mOp ixT (mV 0) (mC (.str "at"))) (mC (.int 1)))) mNil)) (mV 1)))))
def m__law_next : FN := runF 0 t__law_next
abbrev s__law_pick : Stmt := topS 8
abbrev n__law_pick : List Str := ["w", "rows"]
def t__law_pick : MS :=
      (sRet (mOp ixT (mV 1) (mCalB m__law_next (mCons (mV 0) (mCons (mFz (mCall lenT (mCons (mV 1) mNil))) mNil)))))
def m__law_pick : FN := runF 0 t__law_pick
abbrev s__law_alike : Stmt := topS 9
abbrev n__law_alike : List Str := ["given", "due", "k"]
def t__law_alike (FF : FN) : MS :=
      (sSeq (sIf (asB (mIsi "tuple" (mV 1))) (sSeq (sIf (mtOr (mtNot (asB (mIsi "tuple" (mV 0)))) (asB (mOp neG (mCall lenG (mCons (mV 0) mNil)) (mCall lenG (mCons (mV 1) mNil))))) (sRet (mC (.bool false))) sNil)
      (sRet (mOp eqG (mLc [2] (iRange (mCons (mCall lenG (mCons (mV 1) mNil)) mNil)) (gN 2) (mtNot (asB (mCal FF (mCons (mFz (mOp ixT (mV 0) (mV 2))) (mCons (mFz (mOp ixT (mV 1) (mV 2))) mNil))))) (mV 2)) (mLst mNil)))) sNil)
      (sSeq (sIf (asB (mOp isNT (mV 1) (mC .none))) (sRet (mOp isNT (mV 0) (mC .none))) sNil)
      (sSeq (sIf (asB (mIsi "bool" (mV 1))) (sRet (mAndV (mIsi "bool" (mV 0)) (mOp eqG (mV 0) (mV 1)))) sNil)
      (sSeq (sIf (asB (mIsi "int" (mV 1))) (sRet (mAndV (mIsi "int" (mV 0)) (mAndV (mNotV (mIsi "bool" (mV 0))) (mOp eqG (mV 0) (mV 1))))) sNil)
      (sRet (mAndV (mIsi "str" (mV 0)) (mOp eqG (mV 0) (mV 1))))))))
def m__law_alike_0 : FN := fun _ => none
def m__law_alike_1 : FN := runF 1 (t__law_alike m__law_alike_0)
def m__law_alike_2 : FN := runF 1 (t__law_alike m__law_alike_1)
def m__law_alike_3 : FN := runF 1 (t__law_alike m__law_alike_2)
def m__law_alike_4 : FN := runF 1 (t__law_alike m__law_alike_3)
def m__law_alike_5 : FN := runF 1 (t__law_alike m__law_alike_4)
abbrev m__law_alike : FN := m__law_alike_5
abbrev s__law_period : Stmt := topS 10
abbrev n__law_period : List Str := ["row", "able", "p", "k"]
def t__law_period : MS :=
      (sSeq (sSet 1 (mFz (mLc [2] (iRange (mCons (mC (.int 1)) (mCons (mOp addT (mCall lenG (mCons (mV 0) mNil)) (mC (.int 1))) mNil))) (gN 2) (asB (mOp eqG (mLc [3] (iRange (mCons (mOp subT (mCall lenG (mCons (mV 0) mNil)) (mV 2)) mNil)) (gN 3) (asB (mOp neG (mOp ixT (mV 0) (mV 3)) (mOp ixT (mV 0) (mOp addT (mV 3) (mV 2))))) (mV 3)) (mLst mNil))) (mV 2))))
      (sRet (mIf (asB (mOp neG (mV 1) (mLst mNil))) (mOp ixT (mV 1) (mC (.int 0))) (mC (.int 1)))))
def m__law_period : FN := runF 3 t__law_period
abbrev s_law : Stmt := topS 11
abbrev n_law : List Str := ["script", "w", "turn", "some", "row", "found", "begin", "end", "p", "best", "other", "many", "k"]
def t_law : MS :=
      (sSeq (sSet 1 (mDisp [("draws", (mCal m__law_draws (mCons (mFz (mV 0)) (mCons (mFz (mC (.int 500))) mNil)))), ("at", (mC (.int 0)))]))
      (sSeq (sFor (iRange (mCons (mC (.int 7)) mNil)) (gN 2) (sSeq (sSet 3 (mCalB m__law_pick (mCons (mV 1) (mCons (mFz (mLst (mCons (mFz (mLst (mCons (mFz (mC (.str "a"))) mNil))) (mCons (mFz (mLst (mCons (mFz (mC (.str "a"))) (mCons (mFz (mC (.str "b"))) mNil)))) (mCons (mFz (mLst (mCons (mFz (mC (.str "a"))) (mCons (mFz (mC (.str "b"))) mNil)))) (mCons (mFz (mLst (mCons (mFz (mC (.str "a"))) (mCons (mFz (mC (.str "b"))) (mCons (mFz (mC (.str "c1"))) mNil))))) mNil)))))) mNil))))
      (sSeq (sSet 4 (mCall tupleT (mCons (mLc [12] (iRange (mCons (mCalB m__law_next (mCons (mV 1) (mCons (mFz (mC (.int 13))) mNil))) mNil)) (gN 12) mtYes (mCalB m__law_pick (mCons (mV 1) (mCons (mFz (mV 3)) mNil)))) mNil)))
      (sSeq (sIf (asB (mOp eqG (mCalB m__law_next (mCons (mV 1) (mCons (mFz (mC (.int 3))) mNil))) (mC (.int 0)))) (sSet 4 (mSl (mOp addT (mOp mulA (mSl (mV 4) none (some (mC (.int 3)))) (mC (.int 4))) (mSl (mV 4) (some (mC (.int 3))) (some (mC (.int 5))))) none (some (mC (.int 14))))) sNil)
      (sSeq (sIf (mtNot (asB (mCal m__law_alike (mCons (mFz (mCal m_least_period (mCons (mFz (mV 4)) mNil))) (mCons (mFz (mCal m__law_period (mCons (mFz (mV 4)) mNil))) mNil))))) (sRet (mC (.bool false))) sNil)
      (sSeq (sSet 5 (mLst mNil))
      (sSeq (sFor (iRange (mCons (mCall lenG (mCons (mV 4) mNil)) mNil)) (gN 6) (sFor (iRange (mCons (mOp addT (mV 6) (mC (.int 2))) (mCons (mOp addT (mCall lenG (mCons (mV 4) mNil)) (mC (.int 1))) mNil))) (gN 7) (sSeq (sSet 8 (mFz (mCal m__law_period (mCons (mFz (mSl (mV 4) (some (mV 6)) (some (mV 7)))) mNil))))
      (sIf (mtAnd (asB (mOp leG (mOp mulI (mC (.int 2)) (mV 8)) (mOp subT (mV 7) (mV 6)))) (mtAnd (mtOr (asB (mOp eqG (mV 6) (mC (.int 0)))) (asB (mOp neG (mOp ixT (mV 4) (mOp subT (mV 6) (mC (.int 1)))) (mOp ixT (mV 4) (mOp addT (mOp subT (mV 6) (mC (.int 1))) (mV 8)))))) (mtOr (asB (mOp eqG (mV 7) (mCall lenG (mCons (mV 4) mNil)))) (asB (mOp neG (mOp ixT (mV 4) (mV 7)) (mOp ixT (mV 4) (mOp subT (mV 7) (mV 8)))))))) (sExpr (mMut 5 "list" appT (mCons (mFz (mTup (mCons (mFz (mV 6)) (mCons (mFz (mV 8)) (mCons (mFz (mV 7)) mNil))))) mNil))) sNil))))
      (sSeq (sIf (mtNot (asB (mCal m__law_alike (mCons (mFz (mCal m_repeats (mCons (mFz (mV 4)) mNil))) (mCons (mFz (mCall tupleT (mCons (mCall sortedH (mCons (mV 5) mNil)) mNil))) mNil))))) (sRet (mC (.bool false))) sNil)
      (sSeq (sSet 9 (mTup (mCons (mFz (mC (.int 0))) (mCons (mFz (mC (.int 0))) (mCons (mFz (mC (.int 0))) mNil)))))
      (sSeq (sFor (iRange (mCons (mCall lenG (mCons (mV 4) mNil)) mNil)) (gN 6) (sFor (iRange (mCons (mOp addT (mV 6) (mC (.int 1))) (mCons (mCall lenG (mCons (mV 4) mNil)) mNil))) (gN 10) (sSeq (sSet 11 (mC (.int 0)))
      (sSeq (sWhile fuel (mtAnd (asB (mOp ltG (mOp addT (mV 10) (mV 11)) (mCall lenG (mCons (mV 4) mNil)))) (asB (mOp eqG (mOp ixT (mV 4) (mOp addT (mV 6) (mV 11))) (mOp ixT (mV 4) (mOp addT (mV 10) (mV 11)))))) (sAug 11 augT (mC (.int 1))))
      (sSet 9 (mIf (asB (mOp gtG (mV 11) (mOp ixT (mV 9) (mC (.int 2))))) (mTup (mCons (mFz (mV 6)) (mCons (mFz (mV 10)) (mCons (mFz (mV 11)) mNil)))) (mV 9)))))))
      (sIf (mtNot (asB (mCal m__law_alike (mCons (mFz (mCal m_longest_twice (mCons (mFz (mV 4)) mNil))) (mCons (mFz (mV 9)) mNil))))) (sRet (mC (.bool false))) sNil)))))))))))
      (sRet (mC (.bool true)))))
def m_law : FN := runF 12 t_law
/-! ### the walks -/
theorem sc_least_period : FnScope n_least_period ["row"] (defScope s_least_period) := ⟨rfl, rfl, rfl, by decide +kernel, rfl, by decide +kernel, by decide +kernel⟩
theorem sc_stretch_from : FnScope n_stretch_from ["row", "begin", "period"] (defScope s_stretch_from) := ⟨rfl, rfl, rfl, by decide +kernel, rfl, by decide +kernel, by decide +kernel⟩
theorem sc_repeats : FnScope n_repeats ["row"] (defScope s_repeats) := ⟨rfl, rfl, rfl, by decide +kernel, rfl, by decide +kernel, by decide +kernel⟩
theorem sc_longest_twice : FnScope n_longest_twice ["row"] (defScope s_longest_twice) := ⟨rfl, rfl, rfl, by decide +kernel, rfl, by decide +kernel, by decide +kernel⟩
theorem sc__law_draws : FnScope n__law_draws ["script", "many"] (defScope s__law_draws) := ⟨rfl, rfl, rfl, by decide +kernel, rfl, by decide +kernel, by decide +kernel⟩
theorem sc__law_next : FnScope n__law_next ["w", "many"] (defScope s__law_next) := ⟨rfl, rfl, rfl, by decide +kernel, rfl, by decide +kernel, by decide +kernel⟩
theorem sc__law_pick : FnScope n__law_pick ["w", "rows"] (defScope s__law_pick) := ⟨rfl, rfl, rfl, by decide +kernel, rfl, by decide +kernel, by decide +kernel⟩
theorem sc__law_alike : FnScope n__law_alike ["given", "due"] (defScope s__law_alike) := ⟨rfl, rfl, rfl, by decide +kernel, rfl, by decide +kernel, by decide +kernel⟩
theorem sc__law_period : FnScope n__law_period ["row"] (defScope s__law_period) := ⟨rfl, rfl, rfl, by decide +kernel, rfl, by decide +kernel, by decide +kernel⟩
theorem sc_law : FnScope n_law ["script"] (defScope s_law) := ⟨rfl, rfl, rfl, by decide +kernel, rfl, by decide +kernel, by decide +kernel⟩
structure Tp (K : PySem.W.Frag) (mg : Str → Option Value) where
  a_least_period : Addr
  d_least_period : FuncData
  F_least_period : Fun K "least_period" "least_period" s_least_period a_least_period d_least_period
  b_least_period : Binds K d_least_period ["row"] []
  g_least_period : mg "least_period" = some (.ref a_least_period)
  a_stretch_from : Addr
  d_stretch_from : FuncData
  F_stretch_from : Fun K "stretch_from" "stretch_from" s_stretch_from a_stretch_from d_stretch_from
  b_stretch_from : Binds K d_stretch_from ["row", "begin", "period"] []
  g_stretch_from : mg "stretch_from" = some (.ref a_stretch_from)
  a_repeats : Addr
  d_repeats : FuncData
  F_repeats : Fun K "repeats" "repeats" s_repeats a_repeats d_repeats
  b_repeats : Binds K d_repeats ["row"] []
  g_repeats : mg "repeats" = some (.ref a_repeats)
  a_longest_twice : Addr
  d_longest_twice : FuncData
  F_longest_twice : Fun K "longest_twice" "longest_twice" s_longest_twice a_longest_twice d_longest_twice
  b_longest_twice : Binds K d_longest_twice ["row"] []
  g_longest_twice : mg "longest_twice" = some (.ref a_longest_twice)
  a__law_draws : Addr
  d__law_draws : FuncData
  F__law_draws : Fun K "_law_draws" "_law_draws" s__law_draws a__law_draws d__law_draws
  b__law_draws : Binds K d__law_draws ["script", "many"] []
  g__law_draws : mg "_law_draws" = some (.ref a__law_draws)
  a__law_next : Addr
  d__law_next : FuncData
  F__law_next : Fun K "_law_next" "_law_next" s__law_next a__law_next d__law_next
  b__law_next : Binds K d__law_next ["w", "many"] []
  g__law_next : mg "_law_next" = some (.ref a__law_next)
  a__law_pick : Addr
  d__law_pick : FuncData
  F__law_pick : Fun K "_law_pick" "_law_pick" s__law_pick a__law_pick d__law_pick
  b__law_pick : Binds K d__law_pick ["w", "rows"] []
  g__law_pick : mg "_law_pick" = some (.ref a__law_pick)
  a__law_alike : Addr
  d__law_alike : FuncData
  F__law_alike : Fun K "_law_alike" "_law_alike" s__law_alike a__law_alike d__law_alike
  b__law_alike : Binds K d__law_alike ["given", "due"] []
  g__law_alike : mg "_law_alike" = some (.ref a__law_alike)
  a__law_period : Addr
  d__law_period : FuncData
  F__law_period : Fun K "_law_period" "_law_period" s__law_period a__law_period d__law_period
  b__law_period : Binds K d__law_period ["row"] []
  g__law_period : mg "_law_period" = some (.ref a__law_period)
  a_law : Addr
  d_law : FuncData
  F_law : Fun K "law" "law" s_law a_law d_law
  b_law : Binds K d_law ["script"] []
  g_law : mg "law" = some (.ref a_law)
  z_abs : mg "abs" = none
  z_all : mg "all" = none
  z_bool : mg "bool" = none
  z_int : mg "int" = none
  z_isinstance : mg "isinstance" = none
  z_len : mg "len" = none
  z_max : mg "max" = none
  z_range : mg "range" = none
  z_sorted : mg "sorted" = none
  z_str : mg "str" = none
  z_tuple : mg "tuple" = none
section
variable {P : Program} {w : World} {K : PySem.W.Frag} {mg : Str → Option Value} {base : Heap}
set_option maxHeartbeats 4000000 in
theorem ok_least_period (Z : Tp K mg) : FnOk P w K mg base CX0 1 Z.a_least_period Z.d_least_period ["row"] (spS K 1 m_least_period) :=
  have nd := sc_least_period.nd
  fn_ok Z.F_least_period sc_least_period rfl fun cdv A outer s H E hr =>
      (sss_cons (ss_for PassesOwn.never rfl (si_range2 (by rfl) Z.z_range (sa_cons se_int (sa_cons (se_callB (c_lenG) (by rfl) Z.z_len (by decide +kernel) (sa_cons (sv 0) sa_nil)) sa_nil)) (h0 := args2_no)) (sg_name (i := 1) nd rfl (by first | exact Or.inl rfl | exact Or.inr rfl)) (sss_one (ss_if (st_val (se_callB (c_all rfl) (by rfl) Z.z_all (by decide +kernel) (sa_cons (se_lc (own := [("k", 2)]) rfl nd (blkOk_by (by kernel_rfl)) (by decide) (si_range1 (by rfl) Z.z_range (sa_cons (se_op o_sub (se_callB (c_lenG) (by rfl) Z.z_len (by decide +kernel) (sa_cons (sv 0) sa_nil)) (sv 1)) sa_nil)) (fun _ _ _ _ _ => (sg_name (i := 2) nd rfl (by first | exact Or.inl rfl | exact Or.inr rfl))) (fun _ _ _ _ _ => sts_nil) (fun _ _ _ _ _ => (se_cmp (o_eqG (hu64 hr)) (se_ix (o_ix (hu1 hr)) (sv 0) (sv 2) (fun _ _ => rfl)) (se_ix (o_ix (hu1 hr)) (sv 0) (se_op o_add (sv 2) (sv 1)) (fun _ _ => rfl)) (nomark _)))) sa_nil))) (sss_one (ss_ret (sv 1))) sss_nil)))
      (sss_one (ss_ret (se_callB (c_max2 rfl) (by rfl) Z.z_max (by decide +kernel) (sa_cons se_int (sa_cons (se_callB (c_lenG) (by rfl) Z.z_len (by decide +kernel) (sa_cons (sv 0) sa_nil)) sa_nil))))))
set_option maxHeartbeats 4000000 in
theorem ok_stretch_from (Z : Tp K mg) : FnOk P w K mg base CX0 1 Z.a_stretch_from Z.d_stretch_from ["row", "begin", "period"] (spS K 3 m_stretch_from) :=
  have nd := sc_stretch_from.nd
  fn_ok Z.F_stretch_from sc_stretch_from rfl fun cdv A outer s H E hr =>
      (sss_cons (ss_set (i := 3) nd rfl (by first | exact Or.inl rfl | exact Or.inr rfl) (se_op o_add (sv 1) (sv 2)))
      (sss_cons (ss_while PassesOwn.never (st_w (sw_and (st_cmp (o_ltG (hu64 hr)) (sv 3) (se_callB (c_lenG) (by rfl) Z.z_len (by decide +kernel) (sa_cons (sv 0) sa_nil)) (nomark _)) (sw_and1 (st_cmp (o_eqG (hu64 hr)) (se_ix (o_ix (hu1 hr)) (sv 0) (sv 3) (fun _ _ => rfl)) (se_ix (o_ix (hu1 hr)) (sv 0) (se_op o_sub (sv 3) (sv 2)) (fun _ _ => rfl)) (nomark _))))) (sss_one (ss_aug nd rfl (by first | exact Or.inl rfl | exact Or.inr rfl) se_int p_add)))
      (sss_one (ss_ret (sv 3)))))
set_option maxHeartbeats 4000000 in
theorem ok_repeats (Z : Tp K mg) : FnOk P w K mg base CX0 2 Z.a_repeats Z.d_repeats ["row"] (spS K 1 m_repeats) :=
  have nd := sc_repeats.nd
  fn_ok Z.F_repeats sc_repeats rfl fun cdv A outer s H E hr =>
      (sss_cons (ss_set (i := 1) nd rfl (by first | exact Or.inl rfl | exact Or.inr rfl) (se_lst sa_nil))
      (sss_cons (ss_for PassesOwn.never rfl (si_range2 (by rfl) Z.z_range (sa_cons se_int (sa_cons (se_op o_add (se_op o_div (se_callB (c_lenG) (by rfl) Z.z_len (by decide +kernel) (sa_cons (sv 0) sa_nil)) se_int) se_int) sa_nil)) (h0 := args2_no)) (sg_name (i := 2) nd rfl (by first | exact Or.inl rfl | exact Or.inr rfl)) (sss_cons (ss_set (i := 3) nd rfl (by first | exact Or.inl rfl | exact Or.inr rfl) se_int)
      (sss_one (ss_while PassesOwn.never (st_cmp (o_leG (hu64 hr)) (se_op o_add (sv 3) (se_op o_mulI se_int (sv 2))) (se_callB (c_lenG) (by rfl) Z.z_len (by decide +kernel) (sa_cons (sv 0) sa_nil)) (nomark _)) (sss_cons (ss_set (i := 4) nd rfl (by first | exact Or.inl rfl | exact Or.inr rfl) (se_fz (se_cal (ok_stretch_from Z) (hr.mono (by decide)) (by rfl) Z.g_stretch_from Z.F_stretch_from.kp Z.b_stretch_from (sa_cons (se_fz (sv 0)) (sa_cons (se_fz (sv 3)) (sa_cons (se_fz (sv 2)) sa_nil))) (len_cons (len_cons (len_cons len_nil))))))
      (sss_cons (ss_set (i := 5) nd rfl (by first | exact Or.inl rfl | exact Or.inr rfl) (se_or (se_cmp (o_eqG (hu64 hr)) (sv 3) se_int (nomark _)) (se_one (se_cmp (o_neG (hu64 hr)) (se_ix (o_ix (hu1 hr)) (sv 0) (se_op o_sub (sv 3) se_int) (fun _ _ => rfl)) (se_ix (o_ix (hu1 hr)) (sv 0) (se_op o_add (se_op o_sub (sv 3) se_int) (sv 2)) (fun _ _ => rfl)) (nomark _)))))
      (sss_cons (ss_if (st_w (sw_and (st_val (sv 5)) (sw_and (st_cmp (o_geG (hu64 hr)) (se_op o_sub (sv 4) (sv 3)) (se_op o_mulI se_int (sv 2)) (nomark _)) (sw_and1 (st_cmp (o_eqG (hu64 hr)) (se_cal (ok_least_period Z) (hr.mono (by decide)) (by rfl) Z.g_least_period Z.F_least_period.kp Z.b_least_period (sa_cons (se_fz (se_sl (sv 0) (so_some (sv 3)) (so_some (sv 4)))) sa_nil) (len_cons len_nil)) (sv 2) (nomark _)))))) (sss_one (ss_expr (se_mut PySem.F.slot_list_append PySem.F.type_list_append PySem.F.plainAttrs_list mt_app rfl (by first | exact Or.inl rfl | exact Or.inr (Or.inl rfl) | exact Or.inr (Or.inr rfl)) (sa_cons (se_fz (se_tup (sa_cons (se_fz (sv 3)) (sa_cons (se_fz (sv 2)) (sa_cons (se_fz (sv 4)) sa_nil))))) sa_nil)))) sss_nil)
      (sss_one (ss_aug nd rfl (by first | exact Or.inl rfl | exact Or.inr rfl) se_int p_add)))))))))
      (sss_one (ss_ret (se_callTy (c_tuple) (by rfl) Z.z_tuple (by decide +kernel) (sa_cons (se_callB (c_sortedH rfl (hu64 hr)) (by rfl) Z.z_sorted (by decide +kernel) (sa_cons (sv 1) sa_nil)) sa_nil))))))
set_option maxHeartbeats 4000000 in
theorem ok_longest_twice (Z : Tp K mg) : FnOk P w K mg base CX0 1 Z.a_longest_twice Z.d_longest_twice ["row"] (spS K 1 m_longest_twice) :=
  have nd := sc_longest_twice.nd
  fn_ok Z.F_longest_twice sc_longest_twice rfl fun cdv A outer s H E hr =>
      (sss_cons (ss_set (i := 1) nd rfl (by first | exact Or.inl rfl | exact Or.inr rfl) (se_tup (sa_cons (se_fz se_int) (sa_cons (se_fz se_int) (sa_cons (se_fz se_int) sa_nil)))))
      (sss_cons (ss_for PassesOwn.never rfl (si_range1 (by rfl) Z.z_range (sa_cons (se_callB (c_lenG) (by rfl) Z.z_len (by decide +kernel) (sa_cons (sv 0) sa_nil)) sa_nil)) (sg_name (i := 2) nd rfl (by first | exact Or.inl rfl | exact Or.inr rfl)) (sss_one (ss_for PassesOwn.never rfl (si_range2 (by rfl) Z.z_range (sa_cons (se_op o_add (sv 2) se_int) (sa_cons (se_callB (c_lenG) (by rfl) Z.z_len (by decide +kernel) (sa_cons (sv 0) sa_nil)) sa_nil)) (h0 := args2_no)) (sg_name (i := 3) nd rfl (by first | exact Or.inl rfl | exact Or.inr rfl)) (sss_cons (ss_set (i := 4) nd rfl (by first | exact Or.inl rfl | exact Or.inr rfl) se_int)
      (sss_cons (ss_while PassesOwn.never (st_w (sw_and (st_cmp (o_ltG (hu64 hr)) (se_op o_add (sv 3) (sv 4)) (se_callB (c_lenG) (by rfl) Z.z_len (by decide +kernel) (sa_cons (sv 0) sa_nil)) (nomark _)) (sw_and1 (st_cmp (o_eqG (hu64 hr)) (se_ix (o_ix (hu1 hr)) (sv 0) (se_op o_add (sv 2) (sv 4)) (fun _ _ => rfl)) (se_ix (o_ix (hu1 hr)) (sv 0) (se_op o_add (sv 3) (sv 4)) (fun _ _ => rfl)) (nomark _))))) (sss_one (ss_aug nd rfl (by first | exact Or.inl rfl | exact Or.inr rfl) se_int p_add)))
      (sss_one (ss_if (st_cmp (o_gtG (hu64 hr)) (sv 4) (se_ix (o_ix (hu1 hr)) (sv 1) se_int (fun _ _ => rfl)) (nomark _)) (sss_one (ss_set (i := 1) nd rfl (by first | exact Or.inl rfl | exact Or.inr rfl) (se_tup (sa_cons (se_fz (sv 2)) (sa_cons (se_fz (sv 3)) (sa_cons (se_fz (sv 4)) sa_nil)))))) sss_nil)))))))
      (sss_one (ss_ret (sv 1)))))
set_option maxHeartbeats 4000000 in
theorem ok__law_draws (Z : Tp K mg) : FnOk P w K mg base CX0 1 Z.a__law_draws Z.d__law_draws ["script", "many"] (spS K 2 m__law_draws) :=
  have nd := sc__law_draws.nd
  fn_ok Z.F__law_draws sc__law_draws rfl fun cdv A outer s H E hr =>
      (sss_cons (ss_set (i := 2) nd rfl (by first | exact Or.inl rfl | exact Or.inr rfl) (se_lst sa_nil))
      (sss_cons (ss_set (i := 3) nd rfl (by first | exact Or.inl rfl | exact Or.inr rfl) se_int)
      (sss_cons (ss_for PassesOwn.never rfl (si_range1 (by rfl) Z.z_range (sa_cons (se_callB (c_len) (by rfl) Z.z_len (by decide +kernel) (sa_cons (sv 0) sa_nil)) sa_nil)) (sg_name (i := 4) nd rfl (by first | exact Or.inl rfl | exact Or.inr rfl)) (sss_cons (ss_set (i := 5) nd rfl (by first | exact Or.inl rfl | exact Or.inr rfl) (se_callB (c_abs) (by rfl) Z.z_abs (by decide +kernel) (sa_cons (se_callTy (c_int) (by rfl) Z.z_int (by decide +kernel) (sa_cons (se_ix (o_ix (hu1 hr)) (sv 0) (sv 4) (fun _ _ => rfl)) sa_nil)) sa_nil)))
      (sss_cons (ss_set (i := 3) nd rfl (by first | exact Or.inl rfl | exact Or.inr rfl) (se_op o_mod (se_callTy (c_int) (by rfl) Z.z_int (by decide +kernel) (sa_cons (se_op o_add (se_op o_add (se_op o_mulI (sv 3) se_int) (se_op o_mod (sv 5) se_int)) (sv 4)) sa_nil)) se_int))
      (sss_cons (ss_set (i := 6) nd rfl (by first | exact Or.inl rfl | exact Or.inr rfl) se_int)
      (sss_cons (ss_if (st_cmp o_ge (sv 5) (se_op o_pow se_int se_int) (nomark _)) (sss_one (ss_set (i := 6) nd rfl (by first | exact Or.inl rfl | exact Or.inr rfl) (sv 5))) (sss_cons (ss_expr (se_mut PySem.F.slot_list_append PySem.F.type_list_append PySem.F.plainAttrs_list mt_app rfl (by first | exact Or.inl rfl | exact Or.inr (Or.inl rfl) | exact Or.inr (Or.inr rfl)) (sa_cons (se_fz (se_op o_mod (se_callTy (c_int) (by rfl) Z.z_int (by decide +kernel) (sa_cons (sv 5) sa_nil)) se_int)) sa_nil)))
      (sss_one (ss_expr (se_mut PySem.F.slot_list_append PySem.F.type_list_append PySem.F.plainAttrs_list mt_app rfl (by first | exact Or.inl rfl | exact Or.inr (Or.inl rfl) | exact Or.inr (Or.inr rfl)) (sa_cons (se_fz (se_op o_mod (se_op o_mod (se_callTy (c_int) (by rfl) Z.z_int (by decide +kernel) (sa_cons (se_op o_add (se_op o_mulI (sv 3) se_int) se_int) sa_nil)) se_int) se_int)) sa_nil))))))
      (sss_one (ss_for PassesOwn.never rfl (si_range1 (by rfl) Z.z_range (sa_cons se_int sa_nil)) (sg_name (i := 7) nd rfl (by first | exact Or.inl rfl | exact Or.inr rfl)) (sss_one (ss_if (st_cmp o_gt (sv 6) se_int (nomark _)) (sss_cons (ss_expr (se_mut PySem.F.slot_list_append PySem.F.type_list_append PySem.F.plainAttrs_list mt_app rfl (by first | exact Or.inl rfl | exact Or.inr (Or.inl rfl) | exact Or.inr (Or.inr rfl)) (sa_cons (se_fz (se_op o_mod (se_callTy (c_int) (by rfl) Z.z_int (by decide +kernel) (sa_cons (sv 6) sa_nil)) se_int)) sa_nil)))
      (sss_one (ss_set (i := 6) nd rfl (by first | exact Or.inl rfl | exact Or.inr rfl) (se_op o_div (sv 6) se_int)))) sss_nil)))))))))
      (sss_cons (ss_for PassesOwn.never rfl (si_range1 (by rfl) Z.z_range (sa_cons (sv 1) sa_nil)) (sg_name (i := 4) nd rfl (by first | exact Or.inl rfl | exact Or.inr rfl)) (sss_cons (ss_set (i := 3) nd rfl (by first | exact Or.inl rfl | exact Or.inr rfl) (se_op o_mod (se_callTy (c_int) (by rfl) Z.z_int (by decide +kernel) (sa_cons (se_op o_add (se_op o_add (se_op o_mulI (sv 3) se_int) (sv 4)) se_int) sa_nil)) se_int))
      (sss_one (ss_expr (se_mut PySem.F.slot_list_append PySem.F.type_list_append PySem.F.plainAttrs_list mt_app rfl (by first | exact Or.inl rfl | exact Or.inr (Or.inl rfl) | exact Or.inr (Or.inr rfl)) (sa_cons (se_fz (se_op o_mod (se_callTy (c_int) (by rfl) Z.z_int (by decide +kernel) (sa_cons (sv 3) sa_nil)) se_int)) sa_nil))))))
      (sss_one (ss_ret (se_sl (sv 2) so_none (so_some (sv 1)))))))))
set_option maxHeartbeats 4000000 in
theorem ok__law_next (Z : Tp K mg) : FnOk P w K mg base CX0 1 Z.a__law_next Z.d__law_next ["w", "many"] (spS K 2 m__law_next) :=
  have nd := sc__law_next.nd
  fn_ok Z.F__law_next sc__law_next rfl fun cdv A outer s H E hr =>
      (sss_cons (ss_augix rfl (by first | exact Or.inl rfl | exact Or.inr (Or.inl rfl) | exact Or.inr (Or.inr rfl)) se_str (get_get (hu1 hr)) se_int p_add (set_put (hu1 hr)))
      (sss_cons (ss_if (st_cmp o_gt (se_ix (o_ix (hu1 hr)) (sv 0) se_str (fun _ _ => rfl)) (se_callB (c_len) (by rfl) Z.z_len (by decide +kernel) (sa_cons (se_ix (o_ix (hu1 hr)) (sv 0) se_str (fun _ _ => rfl)) sa_nil)) (nomark _)) (sss_one (ss_ret se_int)) sss_nil)
      (sss_one (ss_ret (se_op o_mod (se_callTy (c_int) (by rfl) Z.z_int (by decide +kernel) (sa_cons (se_ix (o_ix (hu1 hr)) (se_ix (o_ix (hu1 hr)) (sv 0) se_str (fun _ _ => rfl)) (se_op o_sub (se_ix (o_ix (hu1 hr)) (sv 0) se_str (fun _ _ => rfl)) se_int) (fun _ _ => rfl)) sa_nil)) (sv 1))))))
set_option maxHeartbeats 4000000 in
theorem ok__law_pick (Z : Tp K mg) : FnOk P w K mg base CX0 2 Z.a__law_pick Z.d__law_pick ["w", "rows"] (spS K 2 m__law_pick) :=
  have nd := sc__law_pick.nd
  fn_ok Z.F__law_pick sc__law_pick rfl fun cdv A outer s H E hr =>
      (sss_one (ss_ret (se_ix (o_ix (hu1 hr)) (sv 1) (se_calB (ok__law_next Z) (hr.mono (by decide)) (by rfl) Z.g__law_next Z.F__law_next.kp Z.b__law_next (sa_cons (sv 0) (sa_cons (se_fz (se_callB (c_len) (by rfl) Z.z_len (by decide +kernel) (sa_cons (sv 1) sa_nil))) sa_nil)) (len_cons (len_cons len_nil))) (fun _ _ => rfl))))
theorem ok__law_alike_0 (Z : Tp K mg) : FnOk P w K mg base CX0 1 Z.a__law_alike Z.d__law_alike ["given", "due"] (spS K 2 m__law_alike_0) := fn_never
set_option maxHeartbeats 4000000 in
theorem ok__law_alike_1 (Z : Tp K mg) : FnOk P w K mg base CX0 2 Z.a__law_alike Z.d__law_alike ["given", "due"] (spS K 2 m__law_alike_1) :=
  have nd := sc__law_alike.nd
  fn_ok Z.F__law_alike sc__law_alike rfl fun cdv A outer s H E hr =>
      (sss_cons (ss_if (st_val (se_isi (known_of (by decide +kernel)) (by rfl) Z.z_isinstance (sv 1) (by rfl) Z.z_tuple (by decide +kernel))) (sss_cons (ss_if (st_w (sw_or (st_not (st_val (se_isi (known_of (by decide +kernel)) (by rfl) Z.z_isinstance (sv 0) (by rfl) Z.z_tuple (by decide +kernel)))) (sw_or1 (st_cmp (o_neG (hu64 hr)) (se_callB (c_lenG) (by rfl) Z.z_len (by decide +kernel) (sa_cons (sv 0) sa_nil)) (se_callB (c_lenG) (by rfl) Z.z_len (by decide +kernel) (sa_cons (sv 1) sa_nil)) (nomark _))))) (sss_one (ss_ret se_bl)) sss_nil)
      (sss_one (ss_ret (se_cmp (o_eqG (hu64 hr)) (se_lc (own := [("k", 2)]) rfl nd (blkOk_by (by kernel_rfl)) (by decide) (si_range1 (by rfl) Z.z_range (sa_cons (se_callB (c_lenG) (by rfl) Z.z_len (by decide +kernel) (sa_cons (sv 1) sa_nil)) sa_nil)) (fun _ _ _ _ _ => (sg_name (i := 2) nd rfl (by first | exact Or.inl rfl | exact Or.inr rfl))) (fun _ _ _ _ _ => (sts_one (st_not (st_val (se_cal (ok__law_alike_0 Z) (hr.mono (by decide)) (by rfl) Z.g__law_alike Z.F__law_alike.kp Z.b__law_alike (sa_cons (se_fz (se_ix (o_ix (hu1 hr)) (sv 0) (sv 2) (fun _ _ => rfl))) (sa_cons (se_fz (se_ix (o_ix (hu1 hr)) (sv 1) (sv 2) (fun _ _ => rfl))) sa_nil)) (len_cons (len_cons len_nil))))))) (fun _ _ _ _ _ => (sv 2))) (se_lst sa_nil) (nomark _))))) sss_nil)
      (sss_cons (ss_if (st_cmp o_isN (sv 1) se_non (nomark _)) (sss_one (ss_ret (se_cmp o_isN (sv 0) se_non (nomark _)))) sss_nil)
      (sss_cons (ss_if (st_val (se_isi (known_of (by decide +kernel)) (by rfl) Z.z_isinstance (sv 1) (by rfl) Z.z_bool (by decide +kernel))) (sss_one (ss_ret (se_and (se_isi (known_of (by decide +kernel)) (by rfl) Z.z_isinstance (sv 0) (by rfl) Z.z_bool (by decide +kernel)) (se_one (se_cmp (o_eqG (hu64 hr)) (sv 0) (sv 1) (nomark _)))))) sss_nil)
      (sss_cons (ss_if (st_val (se_isi (known_of (by decide +kernel)) (by rfl) Z.z_isinstance (sv 1) (by rfl) Z.z_int (by decide +kernel))) (sss_one (ss_ret (se_and (se_isi (known_of (by decide +kernel)) (by rfl) Z.z_isinstance (sv 0) (by rfl) Z.z_int (by decide +kernel)) (se_and (se_not (se_isi (known_of (by decide +kernel)) (by rfl) Z.z_isinstance (sv 0) (by rfl) Z.z_bool (by decide +kernel))) (se_one (se_cmp (o_eqG (hu64 hr)) (sv 0) (sv 1) (nomark _))))))) sss_nil)
      (sss_one (ss_ret (se_and (se_isi (known_of (by decide +kernel)) (by rfl) Z.z_isinstance (sv 0) (by rfl) Z.z_str (by decide +kernel)) (se_one (se_cmp (o_eqG (hu64 hr)) (sv 0) (sv 1) (nomark _))))))))))
set_option maxHeartbeats 4000000 in
theorem ok__law_alike_2 (Z : Tp K mg) : FnOk P w K mg base CX0 3 Z.a__law_alike Z.d__law_alike ["given", "due"] (spS K 2 m__law_alike_2) :=
  have nd := sc__law_alike.nd
  fn_ok Z.F__law_alike sc__law_alike rfl fun cdv A outer s H E hr =>
      (sss_cons (ss_if (st_val (se_isi (known_of (by decide +kernel)) (by rfl) Z.z_isinstance (sv 1) (by rfl) Z.z_tuple (by decide +kernel))) (sss_cons (ss_if (st_w (sw_or (st_not (st_val (se_isi (known_of (by decide +kernel)) (by rfl) Z.z_isinstance (sv 0) (by rfl) Z.z_tuple (by decide +kernel)))) (sw_or1 (st_cmp (o_neG (hu64 hr)) (se_callB (c_lenG) (by rfl) Z.z_len (by decide +kernel) (sa_cons (sv 0) sa_nil)) (se_callB (c_lenG) (by rfl) Z.z_len (by decide +kernel) (sa_cons (sv 1) sa_nil)) (nomark _))))) (sss_one (ss_ret se_bl)) sss_nil)
      (sss_one (ss_ret (se_cmp (o_eqG (hu64 hr)) (se_lc (own := [("k", 2)]) rfl nd (blkOk_by (by kernel_rfl)) (by decide) (si_range1 (by rfl) Z.z_range (sa_cons (se_callB (c_lenG) (by rfl) Z.z_len (by decide +kernel) (sa_cons (sv 1) sa_nil)) sa_nil)) (fun _ _ _ _ _ => (sg_name (i := 2) nd rfl (by first | exact Or.inl rfl | exact Or.inr rfl))) (fun _ _ _ _ _ => (sts_one (st_not (st_val (se_cal (ok__law_alike_1 Z) (hr.mono (by decide)) (by rfl) Z.g__law_alike Z.F__law_alike.kp Z.b__law_alike (sa_cons (se_fz (se_ix (o_ix (hu1 hr)) (sv 0) (sv 2) (fun _ _ => rfl))) (sa_cons (se_fz (se_ix (o_ix (hu1 hr)) (sv 1) (sv 2) (fun _ _ => rfl))) sa_nil)) (len_cons (len_cons len_nil))))))) (fun _ _ _ _ _ => (sv 2))) (se_lst sa_nil) (nomark _))))) sss_nil)
      (sss_cons (ss_if (st_cmp o_isN (sv 1) se_non (nomark _)) (sss_one (ss_ret (se_cmp o_isN (sv 0) se_non (nomark _)))) sss_nil)
      (sss_cons (ss_if (st_val (se_isi (known_of (by decide +kernel)) (by rfl) Z.z_isinstance (sv 1) (by rfl) Z.z_bool (by decide +kernel))) (sss_one (ss_ret (se_and (se_isi (known_of (by decide +kernel)) (by rfl) Z.z_isinstance (sv 0) (by rfl) Z.z_bool (by decide +kernel)) (se_one (se_cmp (o_eqG (hu64 hr)) (sv 0) (sv 1) (nomark _)))))) sss_nil)
      (sss_cons (ss_if (st_val (se_isi (known_of (by decide +kernel)) (by rfl) Z.z_isinstance (sv 1) (by rfl) Z.z_int (by decide +kernel))) (sss_one (ss_ret (se_and (se_isi (known_of (by decide +kernel)) (by rfl) Z.z_isinstance (sv 0) (by rfl) Z.z_int (by decide +kernel)) (se_and (se_not (se_isi (known_of (by decide +kernel)) (by rfl) Z.z_isinstance (sv 0) (by rfl) Z.z_bool (by decide +kernel))) (se_one (se_cmp (o_eqG (hu64 hr)) (sv 0) (sv 1) (nomark _))))))) sss_nil)
      (sss_one (ss_ret (se_and (se_isi (known_of (by decide +kernel)) (by rfl) Z.z_isinstance (sv 0) (by rfl) Z.z_str (by decide +kernel)) (se_one (se_cmp (o_eqG (hu64 hr)) (sv 0) (sv 1) (nomark _))))))))))
set_option maxHeartbeats 4000000 in
theorem ok__law_alike_3 (Z : Tp K mg) : FnOk P w K mg base CX0 4 Z.a__law_alike Z.d__law_alike ["given", "due"] (spS K 2 m__law_alike_3) :=
  have nd := sc__law_alike.nd
  fn_ok Z.F__law_alike sc__law_alike rfl fun cdv A outer s H E hr =>
      (sss_cons (ss_if (st_val (se_isi (known_of (by decide +kernel)) (by rfl) Z.z_isinstance (sv 1) (by rfl) Z.z_tuple (by decide +kernel))) (sss_cons (ss_if (st_w (sw_or (st_not (st_val (se_isi (known_of (by decide +kernel)) (by rfl) Z.z_isinstance (sv 0) (by rfl) Z.z_tuple (by decide +kernel)))) (sw_or1 (st_cmp (o_neG (hu64 hr)) (se_callB (c_lenG) (by rfl) Z.z_len (by decide +kernel) (sa_cons (sv 0) sa_nil)) (se_callB (c_lenG) (by rfl) Z.z_len (by decide +kernel) (sa_cons (sv 1) sa_nil)) (nomark _))))) (sss_one (ss_ret se_bl)) sss_nil)
      (sss_one (ss_ret (se_cmp (o_eqG (hu64 hr)) (se_lc (own := [("k", 2)]) rfl nd (blkOk_by (by kernel_rfl)) (by decide) (si_range1 (by rfl) Z.z_range (sa_cons (se_callB (c_lenG) (by rfl) Z.z_len (by decide +kernel) (sa_cons (sv 1) sa_nil)) sa_nil)) (fun _ _ _ _ _ => (sg_name (i := 2) nd rfl (by first | exact Or.inl rfl | exact Or.inr rfl))) (fun _ _ _ _ _ => (sts_one (st_not (st_val (se_cal (ok__law_alike_2 Z) (hr.mono (by decide)) (by rfl) Z.g__law_alike Z.F__law_alike.kp Z.b__law_alike (sa_cons (se_fz (se_ix (o_ix (hu1 hr)) (sv 0) (sv 2) (fun _ _ => rfl))) (sa_cons (se_fz (se_ix (o_ix (hu1 hr)) (sv 1) (sv 2) (fun _ _ => rfl))) sa_nil)) (len_cons (len_cons len_nil))))))) (fun _ _ _ _ _ => (sv 2))) (se_lst sa_nil) (nomark _))))) sss_nil)
      (sss_cons (ss_if (st_cmp o_isN (sv 1) se_non (nomark _)) (sss_one (ss_ret (se_cmp o_isN (sv 0) se_non (nomark _)))) sss_nil)
      (sss_cons (ss_if (st_val (se_isi (known_of (by decide +kernel)) (by rfl) Z.z_isinstance (sv 1) (by rfl) Z.z_bool (by decide +kernel))) (sss_one (ss_ret (se_and (se_isi (known_of (by decide +kernel)) (by rfl) Z.z_isinstance (sv 0) (by rfl) Z.z_bool (by decide +kernel)) (se_one (se_cmp (o_eqG (hu64 hr)) (sv 0) (sv 1) (nomark _)))))) sss_nil)
      (sss_cons (ss_if (st_val (se_isi (known_of (by decide +kernel)) (by rfl) Z.z_isinstance (sv 1) (by rfl) Z.z_int (by decide +kernel))) (sss_one (ss_ret (se_and (se_isi (known_of (by decide +kernel)) (by rfl) Z.z_isinstance (sv 0) (by rfl) Z.z_int (by decide +kernel)) (se_and (se_not (se_isi (known_of (by decide +kernel)) (by rfl) Z.z_isinstance (sv 0) (by rfl) Z.z_bool (by decide +kernel))) (se_one (se_cmp (o_eqG (hu64 hr)) (sv 0) (sv 1) (nomark _))))))) sss_nil)
      (sss_one (ss_ret (se_and (se_isi (known_of (by decide +kernel)) (by rfl) Z.z_isinstance (sv 0) (by rfl) Z.z_str (by decide +kernel)) (se_one (se_cmp (o_eqG (hu64 hr)) (sv 0) (sv 1) (nomark _))))))))))
set_option maxHeartbeats 4000000 in
theorem ok__law_alike_4 (Z : Tp K mg) : FnOk P w K mg base CX0 5 Z.a__law_alike Z.d__law_alike ["given", "due"] (spS K 2 m__law_alike_4) :=
  have nd := sc__law_alike.nd
  fn_ok Z.F__law_alike sc__law_alike rfl fun cdv A outer s H E hr =>
      (sss_cons (ss_if (st_val (se_isi (known_of (by decide +kernel)) (by rfl) Z.z_isinstance (sv 1) (by rfl) Z.z_tuple (by decide +kernel))) (sss_cons (ss_if (st_w (sw_or (st_not (st_val (se_isi (known_of (by decide +kernel)) (by rfl) Z.z_isinstance (sv 0) (by rfl) Z.z_tuple (by decide +kernel)))) (sw_or1 (st_cmp (o_neG (hu64 hr)) (se_callB (c_lenG) (by rfl) Z.z_len (by decide +kernel) (sa_cons (sv 0) sa_nil)) (se_callB (c_lenG) (by rfl) Z.z_len (by decide +kernel) (sa_cons (sv 1) sa_nil)) (nomark _))))) (sss_one (ss_ret se_bl)) sss_nil)
      (sss_one (ss_ret (se_cmp (o_eqG (hu64 hr)) (se_lc (own := [("k", 2)]) rfl nd (blkOk_by (by kernel_rfl)) (by decide) (si_range1 (by rfl) Z.z_range (sa_cons (se_callB (c_lenG) (by rfl) Z.z_len (by decide +kernel) (sa_cons (sv 1) sa_nil)) sa_nil)) (fun _ _ _ _ _ => (sg_name (i := 2) nd rfl (by first | exact Or.inl rfl | exact Or.inr rfl))) (fun _ _ _ _ _ => (sts_one (st_not (st_val (se_cal (ok__law_alike_3 Z) (hr.mono (by decide)) (by rfl) Z.g__law_alike Z.F__law_alike.kp Z.b__law_alike (sa_cons (se_fz (se_ix (o_ix (hu1 hr)) (sv 0) (sv 2) (fun _ _ => rfl))) (sa_cons (se_fz (se_ix (o_ix (hu1 hr)) (sv 1) (sv 2) (fun _ _ => rfl))) sa_nil)) (len_cons (len_cons len_nil))))))) (fun _ _ _ _ _ => (sv 2))) (se_lst sa_nil) (nomark _))))) sss_nil)
      (sss_cons (ss_if (st_cmp o_isN (sv 1) se_non (nomark _)) (sss_one (ss_ret (se_cmp o_isN (sv 0) se_non (nomark _)))) sss_nil)
      (sss_cons (ss_if (st_val (se_isi (known_of (by decide +kernel)) (by rfl) Z.z_isinstance (sv 1) (by rfl) Z.z_bool (by decide +kernel))) (sss_one (ss_ret (se_and (se_isi (known_of (by decide +kernel)) (by rfl) Z.z_isinstance (sv 0) (by rfl) Z.z_bool (by decide +kernel)) (se_one (se_cmp (o_eqG (hu64 hr)) (sv 0) (sv 1) (nomark _)))))) sss_nil)
      (sss_cons (ss_if (st_val (se_isi (known_of (by decide +kernel)) (by rfl) Z.z_isinstance (sv 1) (by rfl) Z.z_int (by decide +kernel))) (sss_one (ss_ret (se_and (se_isi (known_of (by decide +kernel)) (by rfl) Z.z_isinstance (sv 0) (by rfl) Z.z_int (by decide +kernel)) (se_and (se_not (se_isi (known_of (by decide +kernel)) (by rfl) Z.z_isinstance (sv 0) (by rfl) Z.z_bool (by decide +kernel))) (se_one (se_cmp (o_eqG (hu64 hr)) (sv 0) (sv 1) (nomark _))))))) sss_nil)
      (sss_one (ss_ret (se_and (se_isi (known_of (by decide +kernel)) (by rfl) Z.z_isinstance (sv 0) (by rfl) Z.z_str (by decide +kernel)) (se_one (se_cmp (o_eqG (hu64 hr)) (sv 0) (sv 1) (nomark _))))))))))
set_option maxHeartbeats 4000000 in
theorem ok__law_alike_5 (Z : Tp K mg) : FnOk P w K mg base CX0 6 Z.a__law_alike Z.d__law_alike ["given", "due"] (spS K 2 m__law_alike_5) :=
  have nd := sc__law_alike.nd
  fn_ok Z.F__law_alike sc__law_alike rfl fun cdv A outer s H E hr =>
      (sss_cons (ss_if (st_val (se_isi (known_of (by decide +kernel)) (by rfl) Z.z_isinstance (sv 1) (by rfl) Z.z_tuple (by decide +kernel))) (sss_cons (ss_if (st_w (sw_or (st_not (st_val (se_isi (known_of (by decide +kernel)) (by rfl) Z.z_isinstance (sv 0) (by rfl) Z.z_tuple (by decide +kernel)))) (sw_or1 (st_cmp (o_neG (hu64 hr)) (se_callB (c_lenG) (by rfl) Z.z_len (by decide +kernel) (sa_cons (sv 0) sa_nil)) (se_callB (c_lenG) (by rfl) Z.z_len (by decide +kernel) (sa_cons (sv 1) sa_nil)) (nomark _))))) (sss_one (ss_ret se_bl)) sss_nil)
      (sss_one (ss_ret (se_cmp (o_eqG (hu64 hr)) (se_lc (own := [("k", 2)]) rfl nd (blkOk_by (by kernel_rfl)) (by decide) (si_range1 (by rfl) Z.z_range (sa_cons (se_callB (c_lenG) (by rfl) Z.z_len (by decide +kernel) (sa_cons (sv 1) sa_nil)) sa_nil)) (fun _ _ _ _ _ => (sg_name (i := 2) nd rfl (by first | exact Or.inl rfl | exact Or.inr rfl))) (fun _ _ _ _ _ => (sts_one (st_not (st_val (se_cal (ok__law_alike_4 Z) (hr.mono (by decide)) (by rfl) Z.g__law_alike Z.F__law_alike.kp Z.b__law_alike (sa_cons (se_fz (se_ix (o_ix (hu1 hr)) (sv 0) (sv 2) (fun _ _ => rfl))) (sa_cons (se_fz (se_ix (o_ix (hu1 hr)) (sv 1) (sv 2) (fun _ _ => rfl))) sa_nil)) (len_cons (len_cons len_nil))))))) (fun _ _ _ _ _ => (sv 2))) (se_lst sa_nil) (nomark _))))) sss_nil)
      (sss_cons (ss_if (st_cmp o_isN (sv 1) se_non (nomark _)) (sss_one (ss_ret (se_cmp o_isN (sv 0) se_non (nomark _)))) sss_nil)
      (sss_cons (ss_if (st_val (se_isi (known_of (by decide +kernel)) (by rfl) Z.z_isinstance (sv 1) (by rfl) Z.z_bool (by decide +kernel))) (sss_one (ss_ret (se_and (se_isi (known_of (by decide +kernel)) (by rfl) Z.z_isinstance (sv 0) (by rfl) Z.z_bool (by decide +kernel)) (se_one (se_cmp (o_eqG (hu64 hr)) (sv 0) (sv 1) (nomark _)))))) sss_nil)
      (sss_cons (ss_if (st_val (se_isi (known_of (by decide +kernel)) (by rfl) Z.z_isinstance (sv 1) (by rfl) Z.z_int (by decide +kernel))) (sss_one (ss_ret (se_and (se_isi (known_of (by decide +kernel)) (by rfl) Z.z_isinstance (sv 0) (by rfl) Z.z_int (by decide +kernel)) (se_and (se_not (se_isi (known_of (by decide +kernel)) (by rfl) Z.z_isinstance (sv 0) (by rfl) Z.z_bool (by decide +kernel))) (se_one (se_cmp (o_eqG (hu64 hr)) (sv 0) (sv 1) (nomark _))))))) sss_nil)
      (sss_one (ss_ret (se_and (se_isi (known_of (by decide +kernel)) (by rfl) Z.z_isinstance (sv 0) (by rfl) Z.z_str (by decide +kernel)) (se_one (se_cmp (o_eqG (hu64 hr)) (sv 0) (sv 1) (nomark _))))))))))
theorem ok__law_alike (Z : Tp K mg) : FnOk P w K mg base CX0 6 Z.a__law_alike Z.d__law_alike ["given", "due"] (spS K 2 m__law_alike) := ok__law_alike_5 Z
set_option maxHeartbeats 4000000 in
theorem ok__law_period (Z : Tp K mg) : FnOk P w K mg base CX0 1 Z.a__law_period Z.d__law_period ["row"] (spS K 1 m__law_period) :=
  have nd := sc__law_period.nd
  fn_ok Z.F__law_period sc__law_period rfl fun cdv A outer s H E hr =>
      (sss_cons (ss_setLcF (i := 1) (own := [("p", 2)]) rfl nd rfl rfl (sw_true rfl rfl rfl (by decide +kernel)) (blkOk_by (by kernel_rfl)) (by decide) (si_range2 (by rfl) Z.z_range (sa_cons se_int (sa_cons (se_op o_add (se_callB (c_lenG) (by rfl) Z.z_len (by decide +kernel) (sa_cons (sv 0) sa_nil)) se_int) sa_nil)) (h0 := args2_no)) (fun _ _ _ _ _ => (sg_name (i := 2) nd rfl (by first | exact Or.inl rfl | exact Or.inr rfl))) (fun _ _ _ _ _ => (sts_one (st_cmp (o_eqG (hu64 hr)) (se_lc (own := [("k", 3)]) rfl nd (blkOk_by (by kernel_rfl)) (by decide) (si_range1 (by rfl) Z.z_range (sa_cons (se_op o_sub (se_callB (c_lenG) (by rfl) Z.z_len (by decide +kernel) (sa_cons (sv 0) sa_nil)) (sv 2)) sa_nil)) (fun _ _ _ _ _ => (sg_name (i := 3) nd rfl (by first | exact Or.inl rfl | exact Or.inr rfl))) (fun _ _ _ _ _ => (sts_one (st_cmp (o_neG (hu64 hr)) (se_ix (o_ix (hu1 hr)) (sv 0) (sv 3) (fun _ _ => rfl)) (se_ix (o_ix (hu1 hr)) (sv 0) (se_op o_add (sv 3) (sv 2)) (fun _ _ => rfl)) (nomark _)))) (fun _ _ _ _ _ => (sv 3))) (se_lst sa_nil) (nomark _)))) (fun _ _ _ _ _ => (sv 2)))
      (sss_one (ss_ret (se_if (st_cmp (o_neG (hu64 hr)) (sv 1) (se_lst sa_nil) (nomark _)) (se_ix (o_ix (hu1 hr)) (sv 1) se_int (fun _ _ => rfl)) se_int))))
set_option maxHeartbeats 4000000 in
theorem ok_law (Z : Tp K mg) : FnOk P w K mg base CX0 7 Z.a_law Z.d_law ["script"] (spS K 1 m_law) :=
  have nd := sc_law.nd
  fn_ok Z.F_law sc_law rfl fun cdv A outer s H E hr =>
      (sss_cons (ss_set (i := 1) nd rfl (by first | exact Or.inl rfl | exact Or.inr rfl) (se_disp (ps := [("draws", (mCal m__law_draws (mCons (mFz (mV 0)) (mCons (mFz (mC (.int 500))) mNil)))), ("at", (mC (.int 0)))]) (pps_cons pe_str (se_cal (ok__law_draws Z) (hr.mono (by decide)) (by rfl) Z.g__law_draws Z.F__law_draws.kp Z.b__law_draws (sa_cons (se_fz (sv 0)) (sa_cons (se_fz se_int) sa_nil)) (len_cons (len_cons len_nil))) (pps_cons pe_str se_int pps_nil)) rfl rfl (by simp) (by decide)))
      (sss_cons (ss_for PassesOwn.never rfl (si_range1 (by rfl) Z.z_range (sa_cons se_int sa_nil)) (sg_name (i := 2) nd rfl (by first | exact Or.inl rfl | exact Or.inr rfl)) (sss_cons (ss_set (i := 3) nd rfl (by first | exact Or.inl rfl | exact Or.inr rfl) (se_calB (ok__law_pick Z) (hr.mono (by decide)) (by rfl) Z.g__law_pick Z.F__law_pick.kp Z.b__law_pick (sa_cons (sv 1) (sa_cons (se_fz (se_lst (sa_cons (se_fz (se_lst (sa_cons (se_fz se_str) sa_nil))) (sa_cons (se_fz (se_lst (sa_cons (se_fz se_str) (sa_cons (se_fz se_str) sa_nil)))) (sa_cons (se_fz (se_lst (sa_cons (se_fz se_str) (sa_cons (se_fz se_str) sa_nil)))) (sa_cons (se_fz (se_lst (sa_cons (se_fz se_str) (sa_cons (se_fz se_str) (sa_cons (se_fz se_str) sa_nil))))) sa_nil)))))) sa_nil)) (len_cons (len_cons len_nil))))
      (sss_cons (ss_set (i := 4) nd rfl (by first | exact Or.inl rfl | exact Or.inr rfl) (se_callTy (c_tuple) (by rfl) Z.z_tuple (by decide +kernel) (sa_cons (se_lc (own := [("k", 12)]) rfl nd (blkOk_by (by kernel_rfl)) (by decide) (si_range1 (by rfl) Z.z_range (sa_cons (se_calB (ok__law_next Z) (hr.mono (by decide)) (by rfl) Z.g__law_next Z.F__law_next.kp Z.b__law_next (sa_cons (sv 1) (sa_cons (se_fz se_int) sa_nil)) (len_cons (len_cons len_nil))) sa_nil)) (fun _ _ _ _ _ => (sg_name (i := 12) nd rfl (by first | exact Or.inl rfl | exact Or.inr rfl))) (fun _ _ _ _ _ => sts_nil) (fun _ _ _ _ _ => (se_calB (ok__law_pick Z) (hr.mono (by decide)) (by rfl) Z.g__law_pick Z.F__law_pick.kp Z.b__law_pick (sa_cons (sv 1) (sa_cons (se_fz (sv 3)) sa_nil)) (len_cons (len_cons len_nil))))) sa_nil)))
      (sss_cons (ss_if (st_cmp (o_eqG (hu64 hr)) (se_calB (ok__law_next Z) (hr.mono (by decide)) (by rfl) Z.g__law_next Z.F__law_next.kp Z.b__law_next (sa_cons (sv 1) (sa_cons (se_fz se_int) sa_nil)) (len_cons (len_cons len_nil))) se_int (nomark _)) (sss_one (ss_set (i := 4) nd rfl (by first | exact Or.inl rfl | exact Or.inr rfl) (se_sl (se_op o_add (se_op o_mulA (se_sl (sv 4) so_none (so_some se_int)) se_int) (se_sl (sv 4) (so_some se_int) (so_some se_int))) so_none (so_some se_int)))) sss_nil)
      (sss_cons (ss_if (st_not (st_val (se_cal (ok__law_alike Z) (hr.mono (by decide)) (by rfl) Z.g__law_alike Z.F__law_alike.kp Z.b__law_alike (sa_cons (se_fz (se_cal (ok_least_period Z) (hr.mono (by decide)) (by rfl) Z.g_least_period Z.F_least_period.kp Z.b_least_period (sa_cons (se_fz (sv 4)) sa_nil) (len_cons len_nil))) (sa_cons (se_fz (se_cal (ok__law_period Z) (hr.mono (by decide)) (by rfl) Z.g__law_period Z.F__law_period.kp Z.b__law_period (sa_cons (se_fz (sv 4)) sa_nil) (len_cons len_nil))) sa_nil)) (len_cons (len_cons len_nil))))) (sss_one (ss_ret se_bl)) sss_nil)
      (sss_cons (ss_set (i := 5) nd rfl (by first | exact Or.inl rfl | exact Or.inr rfl) (se_lst sa_nil))
      (sss_cons (ss_for PassesOwn.never rfl (si_range1 (by rfl) Z.z_range (sa_cons (se_callB (c_lenG) (by rfl) Z.z_len (by decide +kernel) (sa_cons (sv 4) sa_nil)) sa_nil)) (sg_name (i := 6) nd rfl (by first | exact Or.inl rfl | exact Or.inr rfl)) (sss_one (ss_for PassesOwn.never rfl (si_range2 (by rfl) Z.z_range (sa_cons (se_op o_add (sv 6) se_int) (sa_cons (se_op o_add (se_callB (c_lenG) (by rfl) Z.z_len (by decide +kernel) (sa_cons (sv 4) sa_nil)) se_int) sa_nil)) (h0 := args2_no)) (sg_name (i := 7) nd rfl (by first | exact Or.inl rfl | exact Or.inr rfl)) (sss_cons (ss_set (i := 8) nd rfl (by first | exact Or.inl rfl | exact Or.inr rfl) (se_fz (se_cal (ok__law_period Z) (hr.mono (by decide)) (by rfl) Z.g__law_period Z.F__law_period.kp Z.b__law_period (sa_cons (se_fz (se_sl (sv 4) (so_some (sv 6)) (so_some (sv 7)))) sa_nil) (len_cons len_nil))))
      (sss_one (ss_if (st_w (sw_and (st_cmp (o_leG (hu64 hr)) (se_op o_mulI se_int (sv 8)) (se_op o_sub (sv 7) (sv 6)) (nomark _)) (sw_and (st_w (sw_or (st_cmp (o_eqG (hu64 hr)) (sv 6) se_int (nomark _)) (sw_or1 (st_cmp (o_neG (hu64 hr)) (se_ix (o_ix (hu1 hr)) (sv 4) (se_op o_sub (sv 6) se_int) (fun _ _ => rfl)) (se_ix (o_ix (hu1 hr)) (sv 4) (se_op o_add (se_op o_sub (sv 6) se_int) (sv 8)) (fun _ _ => rfl)) (nomark _))))) (sw_and1 (st_w (sw_or (st_cmp (o_eqG (hu64 hr)) (sv 7) (se_callB (c_lenG) (by rfl) Z.z_len (by decide +kernel) (sa_cons (sv 4) sa_nil)) (nomark _)) (sw_or1 (st_cmp (o_neG (hu64 hr)) (se_ix (o_ix (hu1 hr)) (sv 4) (sv 7) (fun _ _ => rfl)) (se_ix (o_ix (hu1 hr)) (sv 4) (se_op o_sub (sv 7) (sv 8)) (fun _ _ => rfl)) (nomark _))))))))) (sss_one (ss_expr (se_mut PySem.F.slot_list_append PySem.F.type_list_append PySem.F.plainAttrs_list mt_app rfl (by first | exact Or.inl rfl | exact Or.inr (Or.inl rfl) | exact Or.inr (Or.inr rfl)) (sa_cons (se_fz (se_tup (sa_cons (se_fz (sv 6)) (sa_cons (se_fz (sv 8)) (sa_cons (se_fz (sv 7)) sa_nil))))) sa_nil)))) sss_nil))))))
      (sss_cons (ss_if (st_not (st_val (se_cal (ok__law_alike Z) (hr.mono (by decide)) (by rfl) Z.g__law_alike Z.F__law_alike.kp Z.b__law_alike (sa_cons (se_fz (se_cal (ok_repeats Z) (hr.mono (by decide)) (by rfl) Z.g_repeats Z.F_repeats.kp Z.b_repeats (sa_cons (se_fz (sv 4)) sa_nil) (len_cons len_nil))) (sa_cons (se_fz (se_callTy (c_tuple) (by rfl) Z.z_tuple (by decide +kernel) (sa_cons (se_callB (c_sortedH rfl (hu64 hr)) (by rfl) Z.z_sorted (by decide +kernel) (sa_cons (sv 5) sa_nil)) sa_nil))) sa_nil)) (len_cons (len_cons len_nil))))) (sss_one (ss_ret se_bl)) sss_nil)
      (sss_cons (ss_set (i := 9) nd rfl (by first | exact Or.inl rfl | exact Or.inr rfl) (se_tup (sa_cons (se_fz se_int) (sa_cons (se_fz se_int) (sa_cons (se_fz se_int) sa_nil)))))
      (sss_cons (ss_for PassesOwn.never rfl (si_range1 (by rfl) Z.z_range (sa_cons (se_callB (c_lenG) (by rfl) Z.z_len (by decide +kernel) (sa_cons (sv 4) sa_nil)) sa_nil)) (sg_name (i := 6) nd rfl (by first | exact Or.inl rfl | exact Or.inr rfl)) (sss_one (ss_for PassesOwn.never rfl (si_range2 (by rfl) Z.z_range (sa_cons (se_op o_add (sv 6) se_int) (sa_cons (se_callB (c_lenG) (by rfl) Z.z_len (by decide +kernel) (sa_cons (sv 4) sa_nil)) sa_nil)) (h0 := args2_no)) (sg_name (i := 10) nd rfl (by first | exact Or.inl rfl | exact Or.inr rfl)) (sss_cons (ss_set (i := 11) nd rfl (by first | exact Or.inl rfl | exact Or.inr rfl) se_int)
      (sss_cons (ss_while PassesOwn.never (st_w (sw_and (st_cmp (o_ltG (hu64 hr)) (se_op o_add (sv 10) (sv 11)) (se_callB (c_lenG) (by rfl) Z.z_len (by decide +kernel) (sa_cons (sv 4) sa_nil)) (nomark _)) (sw_and1 (st_cmp (o_eqG (hu64 hr)) (se_ix (o_ix (hu1 hr)) (sv 4) (se_op o_add (sv 6) (sv 11)) (fun _ _ => rfl)) (se_ix (o_ix (hu1 hr)) (sv 4) (se_op o_add (sv 10) (sv 11)) (fun _ _ => rfl)) (nomark _))))) (sss_one (ss_aug nd rfl (by first | exact Or.inl rfl | exact Or.inr rfl) se_int p_add)))
      (sss_one (ss_set (i := 9) nd rfl (by first | exact Or.inl rfl | exact Or.inr rfl) (se_if (st_cmp (o_gtG (hu64 hr)) (sv 11) (se_ix (o_ix (hu1 hr)) (sv 9) se_int (fun _ _ => rfl)) (nomark _)) (se_tup (sa_cons (se_fz (sv 6)) (sa_cons (se_fz (sv 10)) (sa_cons (se_fz (sv 11)) sa_nil)))) (sv 9)))))))))
      (sss_one (ss_if (st_not (st_val (se_cal (ok__law_alike Z) (hr.mono (by decide)) (by rfl) Z.g__law_alike Z.F__law_alike.kp Z.b__law_alike (sa_cons (se_fz (se_cal (ok_longest_twice Z) (hr.mono (by decide)) (by rfl) Z.g_longest_twice Z.F_longest_twice.kp Z.b_longest_twice (sa_cons (se_fz (sv 4)) sa_nil) (len_cons len_nil))) (sa_cons (se_fz (sv 9)) sa_nil)) (len_cons (len_cons len_nil))))) (sss_one (ss_ret se_bl)) sss_nil))))))))))))
      (sss_one (ss_ret se_bl))))
end
end K30
namespace K30
open PySem PySem.Spec TL TY

/-! least_period (T(S)) -> I -/
structure St_least_period where
  vrow : (List Tx)
  vp : Int
  vk : Int
def V_least_period (s : St_least_period) : Tab := [[(eT eS) s.vrow], [eI s.vp], [eI s.vk]]
abbrev St_least_period.set_vrow (a : (List Tx)) (s : St_least_period) : St_least_period := { s with vrow := a }
theorem g_least_period_vrow (s : St_least_period) : acc (V_least_period s) 0 0 = (eT eS) s.vrow := rfl
theorem s_least_period_vrow : SetS V_least_period 0 0 (eT eS) St_least_period.set_vrow := setS_of (fun _ _ => ⟨_, rfl⟩) (fun _ _ => rfl)
abbrev St_least_period.set_vp (a : Int) (s : St_least_period) : St_least_period := { s with vp := a }
theorem g_least_period_vp (s : St_least_period) : acc (V_least_period s) 1 0 = eI s.vp := rfl
theorem s_least_period_vp : SetS V_least_period 1 0 eI St_least_period.set_vp := setS_of (fun _ _ => ⟨_, rfl⟩) (fun _ _ => rfl)
abbrev St_least_period.set_vk (a : Int) (s : St_least_period) : St_least_period := { s with vk := a }
theorem g_least_period_vk (s : St_least_period) : acc (V_least_period s) 2 0 = eI s.vk := rfl
theorem s_least_period_vk : SetS V_least_period 2 0 eI St_least_period.set_vk := setS_of (fun _ _ => ⟨_, rfl⟩) (fun _ _ => rfl)
def b_least_period : SX St_least_period Int :=
      (tSeq (tFor (pu (pUn rng2 (pCons (pC (1 : Int)) (pCons (pUn lenO (pCons (pV St_least_period.vrow) pNil)) pNil)))) (St_least_period.set_vp) (tIf (pu (pUn allO (pCons (pLc (pUn rng1 (pCons (pOp subI (pUn lenO (pCons (pV St_least_period.vrow) pNil)) (pV St_least_period.vp)) pNil)) (St_least_period.set_vk) pYes (pOp eqO (pOp atO (pV St_least_period.vrow) (pV St_least_period.vk)) (pOp atO (pV St_least_period.vrow) (pOp addI (pV St_least_period.vk) (pV St_least_period.vp))))) pNil))) (tRet (pu (pV St_least_period.vp))) tNil))
      (tRet (pu (pUn max2O (pCons (pC (1 : Int)) (pCons (pUn lenO (pCons (pV St_least_period.vrow) pNil)) pNil))))))
set_option maxHeartbeats 4000000 in
def x_least_period : { x : AS // LS V_least_period t_least_period b_least_period eI x } := ⟨_,
      (ls_seq (ls_for (pi_rng2 (pa_cons (pl_C (ea := eI) rfl) (pa_cons (pl_call (h_alt h_lenT) (pa_cons (pl_V g_least_period_vrow) pa_nil)) pa_nil))) (lg_n s_least_period_vp) (ls_if (lt_asB (pl_call h_allL (pa_cons (pl_lc (own := [2]) (fe := (pOp eqO (pOp atO (pV St_least_period.vrow) (pV St_least_period.vk)) (pOp atO (pV St_least_period.vrow) (pOp addI (pV St_least_period.vk) (pV St_least_period.vp))))) (pi_rng1 (pa_cons (pl_op h_subI (pl_call (h_alt h_lenT) (pa_cons (pl_V g_least_period_vrow) pa_nil)) (pl_V g_least_period_vp)) pa_nil)) (lg_n s_least_period_vk) pt_yes (pl_op (h_alt2 h_eqO) (pl_op h_ixT (pl_V g_least_period_vrow) (pl_V g_least_period_vk)) (pl_op h_ixT (pl_V g_least_period_vrow) (pl_op h_addI (pl_V g_least_period_vk) (pl_V g_least_period_vp)))) (by decide)) pa_nil))) (ls_ret (pl_V g_least_period_vp)) ls_nil))
      (ls_ret (pl_call h_max2O (pa_cons (pl_C (ea := eI) rfl) (pa_cons (pl_call (h_alt h_lenT) (pa_cons (pl_V g_least_period_vrow) pa_nil)) pa_nil)))))⟩
def d_least_period (a : (List Tx) × Unit) : Option Int := runT none b_least_period { vrow := a.1, vp := 0, vk := 0 }
theorem fn_least_period : FnP m_least_period d_least_period (eCons (eT eS) eNil) eI .F := fnp_on (V := V_least_period) (er := eI) (nn := none) (tb := b_least_period) (x := x_least_period.1) (n := 1) (k := 2) (ini := fun (a : (List Tx) × Unit) => { vrow := a.1, vp := 0, vk := 0 }) rfl x_least_period.2 (by decide +kernel) (fun r h => by first | (cases h; rfl) | cases h) (fun _ => rfl) (fun _ => rfl)

/-! _law_period (T(S)) -> I -/
structure St__law_period where
  vrow : (List Tx)
  vable : (List Int)
  vp : Int
  vk : Int
def V__law_period (s : St__law_period) : Tab := [[(eT eS) s.vrow], [(eL eI) s.vable], [eI s.vp], [eI s.vk]]
abbrev St__law_period.set_vrow (a : (List Tx)) (s : St__law_period) : St__law_period := { s with vrow := a }
theorem g__law_period_vrow (s : St__law_period) : acc (V__law_period s) 0 0 = (eT eS) s.vrow := rfl
theorem s__law_period_vrow : SetS V__law_period 0 0 (eT eS) St__law_period.set_vrow := setS_of (fun _ _ => ⟨_, rfl⟩) (fun _ _ => rfl)
abbrev St__law_period.set_vable (a : (List Int)) (s : St__law_period) : St__law_period := { s with vable := a }
theorem g__law_period_vable (s : St__law_period) : acc (V__law_period s) 1 0 = (eL eI) s.vable := rfl
theorem s__law_period_vable : SetS V__law_period 1 0 (eL eI) St__law_period.set_vable := setS_of (fun _ _ => ⟨_, rfl⟩) (fun _ _ => rfl)
abbrev St__law_period.set_vp (a : Int) (s : St__law_period) : St__law_period := { s with vp := a }
theorem g__law_period_vp (s : St__law_period) : acc (V__law_period s) 2 0 = eI s.vp := rfl
theorem s__law_period_vp : SetS V__law_period 2 0 eI St__law_period.set_vp := setS_of (fun _ _ => ⟨_, rfl⟩) (fun _ _ => rfl)
abbrev St__law_period.set_vk (a : Int) (s : St__law_period) : St__law_period := { s with vk := a }
theorem g__law_period_vk (s : St__law_period) : acc (V__law_period s) 3 0 = eI s.vk := rfl
theorem s__law_period_vk : SetS V__law_period 3 0 eI St__law_period.set_vk := setS_of (fun _ _ => ⟨_, rfl⟩) (fun _ _ => rfl)
def b__law_period : SX St__law_period Int :=
      (tSeq (tSet (St__law_period.set_vable) (pu (pLc (pUn rng2 (pCons (pC (1 : Int)) (pCons (pOp addI (pUn lenO (pCons (pV St__law_period.vrow) pNil)) (pC (1 : Int))) pNil))) (St__law_period.set_vp) (pOp eqO (pLc (pUn rng1 (pCons (pOp subI (pUn lenO (pCons (pV St__law_period.vrow) pNil)) (pV St__law_period.vp)) pNil)) (St__law_period.set_vk) (pOp neO (pOp atO (pV St__law_period.vrow) (pV St__law_period.vk)) (pOp atO (pV St__law_period.vrow) (pOp addI (pV St__law_period.vk) (pV St__law_period.vp)))) (pV St__law_period.vk)) (pMap (fun _ => ([] : (List Int))) pNil)) (pV St__law_period.vp))))
      (tRet (pu (pIf (pOp neO (pV St__law_period.vable) (pMap (fun _ => ([] : (List Int))) pNil)) (pOp atO (pV St__law_period.vable) (pC (0 : Int))) (pC (1 : Int))))))
set_option maxHeartbeats 4000000 in
def x__law_period : { x : AS // LS V__law_period t__law_period b__law_period eI x } := ⟨_,
      (ls_seq (ls_set s__law_period_vable (le_Fz (pl_lc (own := [2]) (fe := (pV St__law_period.vp)) (pi_rng2 (pa_cons (pl_C (ea := eI) rfl) (pa_cons (pl_op h_addI (pl_call (h_alt h_lenT) (pa_cons (pl_V g__law_period_vrow) pa_nil)) (pl_C (ea := eI) rfl)) pa_nil))) (lg_n s__law_period_vp) (lt_asB (pl_op (h_alt2 h_eqO) (pl_lc (own := [3]) (fe := (pV St__law_period.vk)) (pi_rng1 (pa_cons (pl_op h_subI (pl_call (h_alt h_lenT) (pa_cons (pl_V g__law_period_vrow) pa_nil)) (pl_V g__law_period_vp)) pa_nil)) (lg_n s__law_period_vk) (lt_asB (pl_op (h_alt2 h_neO) (pl_op h_ixT (pl_V g__law_period_vrow) (pl_V g__law_period_vk)) (pl_op h_ixT (pl_V g__law_period_vrow) (pl_op h_addI (pl_V g__law_period_vk) (pl_V g__law_period_vp))))) (pl_V g__law_period_vk) (by decide)) (pl_lst (eb := (eL eI)) (fun _ => rfl) (fun _ => Nat.zero_le _) pa_nil))) (pl_V g__law_period_vp) (by decide))))
      (ls_ret (pl_if (lt_asB (pl_op (h_alt2 h_neO) (pl_V g__law_period_vable) (pl_lst (eb := (eL eI)) (fun _ => rfl) (fun _ => Nat.zero_le _) pa_nil))) (pl_op h_ixL (pl_V g__law_period_vable) (pl_C (ea := eI) rfl)) (pl_C (ea := eI) rfl))))⟩
def d__law_period (a : (List Tx) × Unit) : Option Int := runT none b__law_period { vrow := a.1, vable := [], vp := 0, vk := 0 }
theorem fn__law_period : FnP m__law_period d__law_period (eCons (eT eS) eNil) eI .F := fnp_on (V := V__law_period) (er := eI) (nn := none) (tb := b__law_period) (x := x__law_period.1) (n := 1) (k := 3) (ini := fun (a : (List Tx) × Unit) => { vrow := a.1, vable := [], vp := 0, vk := 0 }) rfl x__law_period.2 (by decide +kernel) (fun r h => by first | (cases h; rfl) | cases h) (fun _ => rfl) (fun _ => rfl)

/-! stretch_from (T(S), I, I) -> I -/
structure St_stretch_from where
  vrow : (List Tx)
  vbegin : Int
  vperiod : Int
  vend : Int
def V_stretch_from (s : St_stretch_from) : Tab := [[(eT eS) s.vrow], [eI s.vbegin], [eI s.vperiod], [eI s.vend]]
abbrev St_stretch_from.set_vrow (a : (List Tx)) (s : St_stretch_from) : St_stretch_from := { s with vrow := a }
theorem g_stretch_from_vrow (s : St_stretch_from) : acc (V_stretch_from s) 0 0 = (eT eS) s.vrow := rfl
theorem s_stretch_from_vrow : SetS V_stretch_from 0 0 (eT eS) St_stretch_from.set_vrow := setS_of (fun _ _ => ⟨_, rfl⟩) (fun _ _ => rfl)
abbrev St_stretch_from.set_vbegin (a : Int) (s : St_stretch_from) : St_stretch_from := { s with vbegin := a }
theorem g_stretch_from_vbegin (s : St_stretch_from) : acc (V_stretch_from s) 1 0 = eI s.vbegin := rfl
theorem s_stretch_from_vbegin : SetS V_stretch_from 1 0 eI St_stretch_from.set_vbegin := setS_of (fun _ _ => ⟨_, rfl⟩) (fun _ _ => rfl)
abbrev St_stretch_from.set_vperiod (a : Int) (s : St_stretch_from) : St_stretch_from := { s with vperiod := a }
theorem g_stretch_from_vperiod (s : St_stretch_from) : acc (V_stretch_from s) 2 0 = eI s.vperiod := rfl
theorem s_stretch_from_vperiod : SetS V_stretch_from 2 0 eI St_stretch_from.set_vperiod := setS_of (fun _ _ => ⟨_, rfl⟩) (fun _ _ => rfl)
abbrev St_stretch_from.set_vend (a : Int) (s : St_stretch_from) : St_stretch_from := { s with vend := a }
theorem g_stretch_from_vend (s : St_stretch_from) : acc (V_stretch_from s) 3 0 = eI s.vend := rfl
theorem s_stretch_from_vend : SetS V_stretch_from 3 0 eI St_stretch_from.set_vend := setS_of (fun _ _ => ⟨_, rfl⟩) (fun _ _ => rfl)
def b_stretch_from : SX St_stretch_from Int :=
      (tSeq (tSet (St_stretch_from.set_vend) (pu (pOp addI (pV St_stretch_from.vbegin) (pV St_stretch_from.vperiod))))
      (tSeq (tWhile fuel (pu (pAnd (pOp ltO (pV St_stretch_from.vend) (pUn lenO (pCons (pV St_stretch_from.vrow) pNil))) (pOp eqO (pOp atO (pV St_stretch_from.vrow) (pV St_stretch_from.vend)) (pOp atO (pV St_stretch_from.vrow) (pOp subI (pV St_stretch_from.vend) (pV St_stretch_from.vperiod)))))) (tAug St_stretch_from.vend (St_stretch_from.set_vend) addI (pu (pC (1 : Int)))))
      (tRet (pu (pV St_stretch_from.vend)))))
set_option maxHeartbeats 4000000 in
def x_stretch_from : { x : AS // LS V_stretch_from t_stretch_from b_stretch_from eI x } := ⟨_,
      (ls_seq (ls_set s_stretch_from_vend (pl_op h_addI (pl_V g_stretch_from_vbegin) (pl_V g_stretch_from_vperiod)))
      (ls_seq (ls_while (pt_and (lt_asB (pl_op h_ltGI (pl_V g_stretch_from_vend) (pl_call (h_alt h_lenT) (pa_cons (pl_V g_stretch_from_vrow) pa_nil)))) (lt_asB (pl_op (h_alt2 h_eqO) (pl_op h_ixT (pl_V g_stretch_from_vrow) (pl_V g_stretch_from_vend)) (pl_op h_ixT (pl_V g_stretch_from_vrow) (pl_op h_subI (pl_V g_stretch_from_vend) (pl_V g_stretch_from_vperiod)))))) (ls_aug h_augI g_stretch_from_vend s_stretch_from_vend (pl_C (ea := eI) rfl)))
      (ls_ret (pl_V g_stretch_from_vend))))⟩
def d_stretch_from (a : (List Tx) × Int × Int × Unit) : Option Int := runT none b_stretch_from { vrow := a.1, vbegin := a.2.1, vperiod := a.2.2.1, vend := 0 }
theorem fn_stretch_from : FnP m_stretch_from d_stretch_from (eCons (eT eS) (eCons eI (eCons eI eNil))) eI .F := fnp_on (V := V_stretch_from) (er := eI) (nn := none) (tb := b_stretch_from) (x := x_stretch_from.1) (n := 3) (k := 1) (ini := fun (a : (List Tx) × Int × Int × Unit) => { vrow := a.1, vbegin := a.2.1, vperiod := a.2.2.1, vend := 0 }) rfl x_stretch_from.2 (by decide +kernel) (fun r h => by first | (cases h; rfl) | cases h) (fun _ => rfl) (fun _ => rfl)

/-! repeats (T(S)) -> T(P(I,I,I)) -/
structure St_repeats where
  vrow : (List Tx)
  vfound : (List (Int × Int × Int))
  vperiod : Int
  vbegin : Int
  vend : Int
  vstarts : Bool
def V_repeats (s : St_repeats) : Tab := [[(eT eS) s.vrow], [(eL (e3 eI eI eI)) s.vfound], [eI s.vperiod], [eI s.vbegin], [eI s.vend], [eB s.vstarts]]
abbrev St_repeats.set_vrow (a : (List Tx)) (s : St_repeats) : St_repeats := { s with vrow := a }
theorem g_repeats_vrow (s : St_repeats) : acc (V_repeats s) 0 0 = (eT eS) s.vrow := rfl
theorem s_repeats_vrow : SetS V_repeats 0 0 (eT eS) St_repeats.set_vrow := setS_of (fun _ _ => ⟨_, rfl⟩) (fun _ _ => rfl)
abbrev St_repeats.set_vfound (a : (List (Int × Int × Int))) (s : St_repeats) : St_repeats := { s with vfound := a }
theorem g_repeats_vfound (s : St_repeats) : acc (V_repeats s) 1 0 = (eL (e3 eI eI eI)) s.vfound := rfl
theorem s_repeats_vfound : SetS V_repeats 1 0 (eL (e3 eI eI eI)) St_repeats.set_vfound := setS_of (fun _ _ => ⟨_, rfl⟩) (fun _ _ => rfl)
abbrev St_repeats.set_vperiod (a : Int) (s : St_repeats) : St_repeats := { s with vperiod := a }
theorem g_repeats_vperiod (s : St_repeats) : acc (V_repeats s) 2 0 = eI s.vperiod := rfl
theorem s_repeats_vperiod : SetS V_repeats 2 0 eI St_repeats.set_vperiod := setS_of (fun _ _ => ⟨_, rfl⟩) (fun _ _ => rfl)
abbrev St_repeats.set_vbegin (a : Int) (s : St_repeats) : St_repeats := { s with vbegin := a }
theorem g_repeats_vbegin (s : St_repeats) : acc (V_repeats s) 3 0 = eI s.vbegin := rfl
theorem s_repeats_vbegin : SetS V_repeats 3 0 eI St_repeats.set_vbegin := setS_of (fun _ _ => ⟨_, rfl⟩) (fun _ _ => rfl)
abbrev St_repeats.set_vend (a : Int) (s : St_repeats) : St_repeats := { s with vend := a }
theorem g_repeats_vend (s : St_repeats) : acc (V_repeats s) 4 0 = eI s.vend := rfl
theorem s_repeats_vend : SetS V_repeats 4 0 eI St_repeats.set_vend := setS_of (fun _ _ => ⟨_, rfl⟩) (fun _ _ => rfl)
abbrev St_repeats.set_vstarts (a : Bool) (s : St_repeats) : St_repeats := { s with vstarts := a }
theorem g_repeats_vstarts (s : St_repeats) : acc (V_repeats s) 5 0 = eB s.vstarts := rfl
theorem s_repeats_vstarts : SetS V_repeats 5 0 eB St_repeats.set_vstarts := setS_of (fun _ _ => ⟨_, rfl⟩) (fun _ _ => rfl)
def b_repeats : SX St_repeats (List (Int × Int × Int)) :=
      (tSeq (tSet (St_repeats.set_vfound) (pu (pMap (fun _ => ([] : (List (Int × Int × Int)))) pNil)))
      (tSeq (tFor (pu (pUn rng2 (pCons (pC (1 : Int)) (pCons (pOp addI (pOp divO (pUn lenO (pCons (pV St_repeats.vrow) pNil)) (pC (2 : Int))) (pC (1 : Int))) pNil)))) (St_repeats.set_vperiod) (tSeq (tSet (St_repeats.set_vbegin) (pu (pC (0 : Int))))
      (tWhile fuel (pu (pOp leO (pOp addI (pV St_repeats.vbegin) (pOp mulO (pC (2 : Int)) (pV St_repeats.vperiod))) (pUn lenO (pCons (pV St_repeats.vrow) pNil)))) (tSeq (tSet (St_repeats.set_vend) (pu (pUn d_stretch_from (pCons (pV St_repeats.vrow) (pCons (pV St_repeats.vbegin) (pCons (pV St_repeats.vperiod) pNil))))))
      (tSeq (tSet (St_repeats.set_vstarts) (pu (pOr (pOp eqO (pV St_repeats.vbegin) (pC (0 : Int))) (pOp neO (pOp atO (pV St_repeats.vrow) (pOp subI (pV St_repeats.vbegin) (pC (1 : Int)))) (pOp atO (pV St_repeats.vrow) (pOp addI (pOp subI (pV St_repeats.vbegin) (pC (1 : Int))) (pV St_repeats.vperiod)))))))
      (tSeq (tIf (pu (pAnd (pV St_repeats.vstarts) (pAnd (pOp geO (pOp subI (pV St_repeats.vend) (pV St_repeats.vbegin)) (pOp mulO (pC (2 : Int)) (pV St_repeats.vperiod))) (pOp eqO (pUn d_least_period (pCons (pSl (pV St_repeats.vrow) (some (pV St_repeats.vbegin)) (some (pV St_repeats.vend))) pNil)) (pV St_repeats.vperiod))))) (tDrop (iMut St_repeats.vfound (St_repeats.set_vfound) appO (pu (pCons (pMap (fun (a : Int × Int × Int × Unit) => ((a.1, a.2.1, a.2.2.1) : (Int × Int × Int))) (pCons (pV St_repeats.vbegin) (pCons (pV St_repeats.vperiod) (pCons (pV St_repeats.vend) pNil)))) pNil)))) tNil)
      (tAug St_repeats.vbegin (St_repeats.set_vbegin) addI (pu (pC (1 : Int))))))))))
      (tRet (pu (pUn idO (pCons (pUn sortO (pCons (pV St_repeats.vfound) pNil)) pNil))))))
set_option maxHeartbeats 4000000 in
def x_repeats : { x : AS // LS V_repeats t_repeats b_repeats (eT (e3 eI eI eI)) x } := ⟨_,
      (ls_seq (ls_set s_repeats_vfound (pl_lst (eb := (eL (e3 eI eI eI))) (fun _ => rfl) (fun _ => Nat.zero_le _) pa_nil))
      (ls_seq (ls_for (pi_rng2 (pa_cons (pl_C (ea := eI) rfl) (pa_cons (pl_op h_addI (pl_op h_divO (pl_call (h_alt h_lenT) (pa_cons (pl_V g_repeats_vrow) pa_nil)) (pl_C (ea := eI) rfl)) (pl_C (ea := eI) rfl)) pa_nil))) (lg_n s_repeats_vperiod) (ls_seq (ls_set s_repeats_vbegin (pl_C (ea := eI) rfl))
      (ls_while (lt_asB (pl_op h_leGI (pl_op h_addI (pl_V g_repeats_vbegin) (pl_op h_mulO (pl_C (ea := eI) rfl) (pl_V g_repeats_vperiod))) (pl_call (h_alt h_lenT) (pa_cons (pl_V g_repeats_vrow) pa_nil)))) (ls_seq (ls_set s_repeats_vend (le_Fz (pl_fn fn_stretch_from (pa_cons (le_Fz (pl_V g_repeats_vrow)) (pa_cons (le_Fz (pl_V g_repeats_vbegin)) (pa_cons (le_Fz (pl_V g_repeats_vperiod)) pa_nil))))))
      (ls_seq (ls_set s_repeats_vstarts (pl_orV (pl_op (h_alt2 h_eqO) (pl_V g_repeats_vbegin) (pl_C (ea := eI) rfl)) (pl_op (h_alt2 h_neO) (pl_op h_ixT (pl_V g_repeats_vrow) (pl_op h_subI (pl_V g_repeats_vbegin) (pl_C (ea := eI) rfl))) (pl_op h_ixT (pl_V g_repeats_vrow) (pl_op h_addI (pl_op h_subI (pl_V g_repeats_vbegin) (pl_C (ea := eI) rfl)) (pl_V g_repeats_vperiod))))))
      (ls_seq (ls_if (pt_and (lt_asB (pl_V g_repeats_vstarts)) (pt_and (lt_asB (pl_op h_geGI (pl_op h_subI (pl_V g_repeats_vend) (pl_V g_repeats_vbegin)) (pl_op h_mulO (pl_C (ea := eI) rfl) (pl_V g_repeats_vperiod)))) (lt_asB (pl_op (h_alt2 h_eqO) (pl_fn fn_least_period (pa_cons (le_Fz (pl_slT (pl_V g_repeats_vrow) (so_s (pl_V g_repeats_vbegin)) (so_s (pl_V g_repeats_vend)))) pa_nil)) (pl_V g_repeats_vperiod))))) (ls_drop (le_mut h_appO (fun _ => rfl) g_repeats_vfound s_repeats_vfound (pa_cons (le_Fz (pl_tup (g := (fun (a : Int × Int × Int × Unit) => ((a.1, a.2.1, a.2.2.1) : (Int × Int × Int)))) (es := (eCons eI (eCons eI (eCons eI eNil)))) (eb := (e3 eI eI eI)) (fun _ => rfl) (fun _ => (by decide : 3 ≤ sizeLine)) (pa_cons (le_Fz (pl_V g_repeats_vbegin)) (pa_cons (le_Fz (pl_V g_repeats_vperiod)) (pa_cons (le_Fz (pl_V g_repeats_vend)) pa_nil))))) pa_nil))) ls_nil)
      (ls_aug h_augI g_repeats_vbegin s_repeats_vbegin (pl_C (ea := eI) rfl))))))))
      (ls_ret (pl_call h_tupleL (pa_cons (pl_call (h_alt h_sortX) (pa_cons (pl_V g_repeats_vfound) pa_nil)) pa_nil)))))⟩
def d_repeats (a : (List Tx) × Unit) : Option (List (Int × Int × Int)) := runT none b_repeats { vrow := a.1, vfound := [], vperiod := 0, vbegin := 0, vend := 0, vstarts := false }
theorem fn_repeats : FnP m_repeats d_repeats (eCons (eT eS) eNil) (eT (e3 eI eI eI)) .F := fnp_on (V := V_repeats) (er := (eT (e3 eI eI eI))) (nn := none) (tb := b_repeats) (x := x_repeats.1) (n := 1) (k := 5) (ini := fun (a : (List Tx) × Unit) => { vrow := a.1, vfound := [], vperiod := 0, vbegin := 0, vend := 0, vstarts := false }) rfl x_repeats.2 (by decide +kernel) (fun r h => by first | (cases h; rfl) | cases h) (fun _ => rfl) (fun _ => rfl)

/-! longest_twice (T(S)) -> P(I,I,I) -/
structure St_longest_twice where
  vrow : (List Tx)
  vbest : (Int × Int × Int)
  vbegin : Int
  vother : Int
  vmany : Int
def V_longest_twice (s : St_longest_twice) : Tab := [[(eT eS) s.vrow], [(e3 eI eI eI) s.vbest], [eI s.vbegin], [eI s.vother], [eI s.vmany]]
abbrev St_longest_twice.set_vrow (a : (List Tx)) (s : St_longest_twice) : St_longest_twice := { s with vrow := a }
theorem g_longest_twice_vrow (s : St_longest_twice) : acc (V_longest_twice s) 0 0 = (eT eS) s.vrow := rfl
theorem s_longest_twice_vrow : SetS V_longest_twice 0 0 (eT eS) St_longest_twice.set_vrow := setS_of (fun _ _ => ⟨_, rfl⟩) (fun _ _ => rfl)
abbrev St_longest_twice.set_vbest (a : (Int × Int × Int)) (s : St_longest_twice) : St_longest_twice := { s with vbest := a }
theorem g_longest_twice_vbest (s : St_longest_twice) : acc (V_longest_twice s) 1 0 = (e3 eI eI eI) s.vbest := rfl
theorem s_longest_twice_vbest : SetS V_longest_twice 1 0 (e3 eI eI eI) St_longest_twice.set_vbest := setS_of (fun _ _ => ⟨_, rfl⟩) (fun _ _ => rfl)
abbrev St_longest_twice.set_vbegin (a : Int) (s : St_longest_twice) : St_longest_twice := { s with vbegin := a }
theorem g_longest_twice_vbegin (s : St_longest_twice) : acc (V_longest_twice s) 2 0 = eI s.vbegin := rfl
theorem s_longest_twice_vbegin : SetS V_longest_twice 2 0 eI St_longest_twice.set_vbegin := setS_of (fun _ _ => ⟨_, rfl⟩) (fun _ _ => rfl)
abbrev St_longest_twice.set_vother (a : Int) (s : St_longest_twice) : St_longest_twice := { s with vother := a }
theorem g_longest_twice_vother (s : St_longest_twice) : acc (V_longest_twice s) 3 0 = eI s.vother := rfl
theorem s_longest_twice_vother : SetS V_longest_twice 3 0 eI St_longest_twice.set_vother := setS_of (fun _ _ => ⟨_, rfl⟩) (fun _ _ => rfl)
abbrev St_longest_twice.set_vmany (a : Int) (s : St_longest_twice) : St_longest_twice := { s with vmany := a }
theorem g_longest_twice_vmany (s : St_longest_twice) : acc (V_longest_twice s) 4 0 = eI s.vmany := rfl
theorem s_longest_twice_vmany : SetS V_longest_twice 4 0 eI St_longest_twice.set_vmany := setS_of (fun _ _ => ⟨_, rfl⟩) (fun _ _ => rfl)
def b_longest_twice : SX St_longest_twice (Int × Int × Int) :=
      (tSeq (tSet (St_longest_twice.set_vbest) (pu (pMap (fun (a : Int × Int × Int × Unit) => ((a.1, a.2.1, a.2.2.1) : (Int × Int × Int))) (pCons (pC (0 : Int)) (pCons (pC (0 : Int)) (pCons (pC (0 : Int)) pNil))))))
      (tSeq (tFor (pu (pUn rng1 (pCons (pUn lenO (pCons (pV St_longest_twice.vrow) pNil)) pNil))) (St_longest_twice.set_vbegin) (tFor (pu (pUn rng2 (pCons (pOp addI (pV St_longest_twice.vbegin) (pC (1 : Int))) (pCons (pUn lenO (pCons (pV St_longest_twice.vrow) pNil)) pNil)))) (St_longest_twice.set_vother) (tSeq (tSet (St_longest_twice.set_vmany) (pu (pC (0 : Int))))
      (tSeq (tWhile fuel (pu (pAnd (pOp ltO (pOp addI (pV St_longest_twice.vother) (pV St_longest_twice.vmany)) (pUn lenO (pCons (pV St_longest_twice.vrow) pNil))) (pOp eqO (pOp atO (pV St_longest_twice.vrow) (pOp addI (pV St_longest_twice.vbegin) (pV St_longest_twice.vmany))) (pOp atO (pV St_longest_twice.vrow) (pOp addI (pV St_longest_twice.vother) (pV St_longest_twice.vmany)))))) (tAug St_longest_twice.vmany (St_longest_twice.set_vmany) addI (pu (pC (1 : Int)))))
      (tIf (pu (pOp gtO (pV St_longest_twice.vmany) (pUn (fun (p : (Int × Int × Int)) => some p.2.2) (pV St_longest_twice.vbest)))) (tSet (St_longest_twice.set_vbest) (pu (pMap (fun (a : Int × Int × Int × Unit) => ((a.1, a.2.1, a.2.2.1) : (Int × Int × Int))) (pCons (pV St_longest_twice.vbegin) (pCons (pV St_longest_twice.vother) (pCons (pV St_longest_twice.vmany) pNil)))))) tNil)))))
      (tRet (pu (pV St_longest_twice.vbest)))))
set_option maxHeartbeats 4000000 in
def x_longest_twice : { x : AS // LS V_longest_twice t_longest_twice b_longest_twice (e3 eI eI eI) x } := ⟨_,
      (ls_seq (ls_set s_longest_twice_vbest (pl_tup (g := (fun (a : Int × Int × Int × Unit) => ((a.1, a.2.1, a.2.2.1) : (Int × Int × Int)))) (es := (eCons eI (eCons eI (eCons eI eNil)))) (eb := (e3 eI eI eI)) (fun _ => rfl) (fun _ => (by decide : 3 ≤ sizeLine)) (pa_cons (le_Fz (pl_C (ea := eI) rfl)) (pa_cons (le_Fz (pl_C (ea := eI) rfl)) (pa_cons (le_Fz (pl_C (ea := eI) rfl)) pa_nil)))))
      (ls_seq (ls_for (pi_rng1 (pa_cons (pl_call (h_alt h_lenT) (pa_cons (pl_V g_longest_twice_vrow) pa_nil)) pa_nil)) (lg_n s_longest_twice_vbegin) (ls_for (pi_rng2 (pa_cons (pl_op h_addI (pl_V g_longest_twice_vbegin) (pl_C (ea := eI) rfl)) (pa_cons (pl_call (h_alt h_lenT) (pa_cons (pl_V g_longest_twice_vrow) pa_nil)) pa_nil))) (lg_n s_longest_twice_vother) (ls_seq (ls_set s_longest_twice_vmany (pl_C (ea := eI) rfl))
      (ls_seq (ls_while (pt_and (lt_asB (pl_op h_ltGI (pl_op h_addI (pl_V g_longest_twice_vother) (pl_V g_longest_twice_vmany)) (pl_call (h_alt h_lenT) (pa_cons (pl_V g_longest_twice_vrow) pa_nil)))) (lt_asB (pl_op (h_alt2 h_eqO) (pl_op h_ixT (pl_V g_longest_twice_vrow) (pl_op h_addI (pl_V g_longest_twice_vbegin) (pl_V g_longest_twice_vmany))) (pl_op h_ixT (pl_V g_longest_twice_vrow) (pl_op h_addI (pl_V g_longest_twice_vother) (pl_V g_longest_twice_vmany)))))) (ls_aug h_augI g_longest_twice_vmany s_longest_twice_vmany (pl_C (ea := eI) rfl)))
      (ls_if (lt_asB (pl_op h_gtGI (pl_V g_longest_twice_vmany) (pl_prj (F := (fun (p : (Int × Int × Int)) => some p.2.2)) (ea := (e3 eI eI eI)) (eb := eI) (fun x z h => by cases h; rfl) (pl_V g_longest_twice_vbest)))) (ls_set s_longest_twice_vbest (pl_tup (g := (fun (a : Int × Int × Int × Unit) => ((a.1, a.2.1, a.2.2.1) : (Int × Int × Int)))) (es := (eCons eI (eCons eI (eCons eI eNil)))) (eb := (e3 eI eI eI)) (fun _ => rfl) (fun _ => (by decide : 3 ≤ sizeLine)) (pa_cons (le_Fz (pl_V g_longest_twice_vbegin)) (pa_cons (le_Fz (pl_V g_longest_twice_vother)) (pa_cons (le_Fz (pl_V g_longest_twice_vmany)) pa_nil))))) ls_nil)))))
      (ls_ret (pl_V g_longest_twice_vbest))))⟩
def d_longest_twice (a : (List Tx) × Unit) : Option (Int × Int × Int) := runT none b_longest_twice { vrow := a.1, vbest := (0, 0, 0), vbegin := 0, vother := 0, vmany := 0 }
theorem fn_longest_twice : FnP m_longest_twice d_longest_twice (eCons (eT eS) eNil) (e3 eI eI eI) .F := fnp_on (V := V_longest_twice) (er := (e3 eI eI eI)) (nn := none) (tb := b_longest_twice) (x := x_longest_twice.1) (n := 1) (k := 4) (ini := fun (a : (List Tx) × Unit) => { vrow := a.1, vbest := (0, 0, 0), vbegin := 0, vother := 0, vmany := 0 }) rfl x_longest_twice.2 (by decide +kernel) (fun r h => by first | (cases h; rfl) | cases h) (fun _ => rfl) (fun _ => rfl)

/-! law (L(I)) -> B -/
structure St_law where
  vscript : (List Int)
  vw : Wk
  vturn : Int
  vsome : (List Tx)
  vrow : (List Tx)
  vfound : (List (Int × Int × Int))
  vbegin : Int
  vend : Int
  vp : Int
  vbest : (Int × Int × Int)
  vother : Int
  vmany : Int
  vk : Int
def V_law (s : St_law) : Tab := [[(eL eI) s.vscript], [eW s.vw], [eI s.vturn], [(eL eS) s.vsome], [(eT eS) s.vrow], [(eL (e3 eI eI eI)) s.vfound], [eI s.vbegin], [eI s.vend], [eI s.vp], [(e3 eI eI eI) s.vbest], [eI s.vother], [eI s.vmany], [eI s.vk]]
abbrev St_law.set_vscript (a : (List Int)) (s : St_law) : St_law := { s with vscript := a }
theorem g_law_vscript (s : St_law) : acc (V_law s) 0 0 = (eL eI) s.vscript := rfl
theorem s_law_vscript : SetS V_law 0 0 (eL eI) St_law.set_vscript := setS_of (fun _ _ => ⟨_, rfl⟩) (fun _ _ => rfl)
abbrev St_law.set_vw (a : Wk) (s : St_law) : St_law := { s with vw := a }
theorem g_law_vw (s : St_law) : acc (V_law s) 1 0 = eW s.vw := rfl
theorem s_law_vw : SetS V_law 1 0 eW St_law.set_vw := setS_of (fun _ _ => ⟨_, rfl⟩) (fun _ _ => rfl)
abbrev St_law.set_vturn (a : Int) (s : St_law) : St_law := { s with vturn := a }
theorem g_law_vturn (s : St_law) : acc (V_law s) 2 0 = eI s.vturn := rfl
theorem s_law_vturn : SetS V_law 2 0 eI St_law.set_vturn := setS_of (fun _ _ => ⟨_, rfl⟩) (fun _ _ => rfl)
abbrev St_law.set_vsome (a : (List Tx)) (s : St_law) : St_law := { s with vsome := a }
theorem g_law_vsome (s : St_law) : acc (V_law s) 3 0 = (eL eS) s.vsome := rfl
theorem s_law_vsome : SetS V_law 3 0 (eL eS) St_law.set_vsome := setS_of (fun _ _ => ⟨_, rfl⟩) (fun _ _ => rfl)
abbrev St_law.set_vrow (a : (List Tx)) (s : St_law) : St_law := { s with vrow := a }
theorem g_law_vrow (s : St_law) : acc (V_law s) 4 0 = (eT eS) s.vrow := rfl
theorem s_law_vrow : SetS V_law 4 0 (eT eS) St_law.set_vrow := setS_of (fun _ _ => ⟨_, rfl⟩) (fun _ _ => rfl)
abbrev St_law.set_vfound (a : (List (Int × Int × Int))) (s : St_law) : St_law := { s with vfound := a }
theorem g_law_vfound (s : St_law) : acc (V_law s) 5 0 = (eL (e3 eI eI eI)) s.vfound := rfl
theorem s_law_vfound : SetS V_law 5 0 (eL (e3 eI eI eI)) St_law.set_vfound := setS_of (fun _ _ => ⟨_, rfl⟩) (fun _ _ => rfl)
abbrev St_law.set_vbegin (a : Int) (s : St_law) : St_law := { s with vbegin := a }
theorem g_law_vbegin (s : St_law) : acc (V_law s) 6 0 = eI s.vbegin := rfl
theorem s_law_vbegin : SetS V_law 6 0 eI St_law.set_vbegin := setS_of (fun _ _ => ⟨_, rfl⟩) (fun _ _ => rfl)
abbrev St_law.set_vend (a : Int) (s : St_law) : St_law := { s with vend := a }
theorem g_law_vend (s : St_law) : acc (V_law s) 7 0 = eI s.vend := rfl
theorem s_law_vend : SetS V_law 7 0 eI St_law.set_vend := setS_of (fun _ _ => ⟨_, rfl⟩) (fun _ _ => rfl)
abbrev St_law.set_vp (a : Int) (s : St_law) : St_law := { s with vp := a }
theorem g_law_vp (s : St_law) : acc (V_law s) 8 0 = eI s.vp := rfl
theorem s_law_vp : SetS V_law 8 0 eI St_law.set_vp := setS_of (fun _ _ => ⟨_, rfl⟩) (fun _ _ => rfl)
abbrev St_law.set_vbest (a : (Int × Int × Int)) (s : St_law) : St_law := { s with vbest := a }
theorem g_law_vbest (s : St_law) : acc (V_law s) 9 0 = (e3 eI eI eI) s.vbest := rfl
theorem s_law_vbest : SetS V_law 9 0 (e3 eI eI eI) St_law.set_vbest := setS_of (fun _ _ => ⟨_, rfl⟩) (fun _ _ => rfl)
abbrev St_law.set_vother (a : Int) (s : St_law) : St_law := { s with vother := a }
theorem g_law_vother (s : St_law) : acc (V_law s) 10 0 = eI s.vother := rfl
theorem s_law_vother : SetS V_law 10 0 eI St_law.set_vother := setS_of (fun _ _ => ⟨_, rfl⟩) (fun _ _ => rfl)
abbrev St_law.set_vmany (a : Int) (s : St_law) : St_law := { s with vmany := a }
theorem g_law_vmany (s : St_law) : acc (V_law s) 11 0 = eI s.vmany := rfl
theorem s_law_vmany : SetS V_law 11 0 eI St_law.set_vmany := setS_of (fun _ _ => ⟨_, rfl⟩) (fun _ _ => rfl)
abbrev St_law.set_vk (a : Int) (s : St_law) : St_law := { s with vk := a }
theorem g_law_vk (s : St_law) : acc (V_law s) 12 0 = eI s.vk := rfl
theorem s_law_vk : SetS V_law 12 0 eI St_law.set_vk := setS_of (fun _ _ => ⟨_, rfl⟩) (fun _ _ => rfl)
def b_law : SX St_law Bool :=
      (tSeq (tSet (St_law.set_vw) (pu (pUn (fun ds => some (Wk.mk ds 0)) (pUn (drawsO m__law_draws) (pCons (pV St_law.vscript) (pCons (pC (500 : Int)) pNil))))))
      (tSeq (tFor (pu (pUn rng1 (pCons (pC (7 : Int)) pNil))) (St_law.set_vturn) (tSeq (tSet (St_law.set_vsome) (iFnB St_law.vw (St_law.set_vw) pickO (pu (pCons (pMap (fun (a : (List Tx) × (List Tx) × (List Tx) × (List Tx) × Unit) => ([a.1, a.2.1, a.2.2.1, a.2.2.2.1] : (List (List Tx)))) (pCons (pMap (fun (a : Tx × Unit) => ([a.1] : (List Tx))) (pCons (pC ([97] : Tx)) pNil)) (pCons (pMap (fun (a : Tx × Tx × Unit) => ([a.1, a.2.1] : (List Tx))) (pCons (pC ([97] : Tx)) (pCons (pC ([98] : Tx)) pNil))) (pCons (pMap (fun (a : Tx × Tx × Unit) => ([a.1, a.2.1] : (List Tx))) (pCons (pC ([97] : Tx)) (pCons (pC ([98] : Tx)) pNil))) (pCons (pMap (fun (a : Tx × Tx × Tx × Unit) => ([a.1, a.2.1, a.2.2.1] : (List Tx))) (pCons (pC ([97] : Tx)) (pCons (pC ([98] : Tx)) (pCons (pC ([99, 49] : Tx)) pNil)))) pNil))))) pNil))))
      (tSeq (tSet (St_law.set_vrow) (iUn idO (iCons (iLc (fun (s0 s : St_law) => { s with vk := s0.vk }) (iUn rng1 (iCons (iFnB St_law.vw (St_law.set_vw) nextO (pu (pCons (pC (13 : Int)) pNil))) (pu pNil))) (St_law.set_vk) (pu pYes) (iFnB St_law.vw (St_law.set_vw) pickO (pu (pCons (pV St_law.vsome) pNil)))) (pu pNil))))
      (tSeq (tIf (iOp eqO (iFnB St_law.vw (St_law.set_vw) nextO (pu (pCons (pC (3 : Int)) pNil))) (pu (pC (0 : Int)))) (tSet (St_law.set_vrow) (pu (pSl (pOp catO (pOp repTO (pSl (pV St_law.vrow) none (some (pC (3 : Int)))) (pC (4 : Int))) (pSl (pV St_law.vrow) (some (pC (3 : Int))) (some (pC (5 : Int))))) none (some (pC (14 : Int)))))) tNil)
      (tSeq (tIf (pu (pNot (pUn (alikeO eI) (pCons (pUn d_least_period (pCons (pV St_law.vrow) pNil)) (pCons (pUn d__law_period (pCons (pV St_law.vrow) pNil)) pNil))))) (tRet (pu (pC false))) tNil)
      (tSeq (tSet (St_law.set_vfound) (pu (pMap (fun _ => ([] : (List (Int × Int × Int)))) pNil)))
      (tSeq (tFor (pu (pUn rng1 (pCons (pUn lenO (pCons (pV St_law.vrow) pNil)) pNil))) (St_law.set_vbegin) (tFor (pu (pUn rng2 (pCons (pOp addI (pV St_law.vbegin) (pC (2 : Int))) (pCons (pOp addI (pUn lenO (pCons (pV St_law.vrow) pNil)) (pC (1 : Int))) pNil)))) (St_law.set_vend) (tSeq (tSet (St_law.set_vp) (pu (pUn d__law_period (pCons (pSl (pV St_law.vrow) (some (pV St_law.vbegin)) (some (pV St_law.vend))) pNil))))
      (tIf (pu (pAnd (pOp leO (pOp mulO (pC (2 : Int)) (pV St_law.vp)) (pOp subI (pV St_law.vend) (pV St_law.vbegin))) (pAnd (pOr (pOp eqO (pV St_law.vbegin) (pC (0 : Int))) (pOp neO (pOp atO (pV St_law.vrow) (pOp subI (pV St_law.vbegin) (pC (1 : Int)))) (pOp atO (pV St_law.vrow) (pOp addI (pOp subI (pV St_law.vbegin) (pC (1 : Int))) (pV St_law.vp))))) (pOr (pOp eqO (pV St_law.vend) (pUn lenO (pCons (pV St_law.vrow) pNil))) (pOp neO (pOp atO (pV St_law.vrow) (pV St_law.vend)) (pOp atO (pV St_law.vrow) (pOp subI (pV St_law.vend) (pV St_law.vp)))))))) (tDrop (iMut St_law.vfound (St_law.set_vfound) appO (pu (pCons (pMap (fun (a : Int × Int × Int × Unit) => ((a.1, a.2.1, a.2.2.1) : (Int × Int × Int))) (pCons (pV St_law.vbegin) (pCons (pV St_law.vp) (pCons (pV St_law.vend) pNil)))) pNil)))) tNil))))
      (tSeq (tIf (pu (pNot (pUn (alikeO (eT (e3 eI eI eI))) (pCons (pUn d_repeats (pCons (pV St_law.vrow) pNil)) (pCons (pUn idO (pCons (pUn sortO (pCons (pV St_law.vfound) pNil)) pNil)) pNil))))) (tRet (pu (pC false))) tNil)
      (tSeq (tSet (St_law.set_vbest) (pu (pMap (fun (a : Int × Int × Int × Unit) => ((a.1, a.2.1, a.2.2.1) : (Int × Int × Int))) (pCons (pC (0 : Int)) (pCons (pC (0 : Int)) (pCons (pC (0 : Int)) pNil))))))
      (tSeq (tFor (pu (pUn rng1 (pCons (pUn lenO (pCons (pV St_law.vrow) pNil)) pNil))) (St_law.set_vbegin) (tFor (pu (pUn rng2 (pCons (pOp addI (pV St_law.vbegin) (pC (1 : Int))) (pCons (pUn lenO (pCons (pV St_law.vrow) pNil)) pNil)))) (St_law.set_vother) (tSeq (tSet (St_law.set_vmany) (pu (pC (0 : Int))))
      (tSeq (tWhile fuel (pu (pAnd (pOp ltO (pOp addI (pV St_law.vother) (pV St_law.vmany)) (pUn lenO (pCons (pV St_law.vrow) pNil))) (pOp eqO (pOp atO (pV St_law.vrow) (pOp addI (pV St_law.vbegin) (pV St_law.vmany))) (pOp atO (pV St_law.vrow) (pOp addI (pV St_law.vother) (pV St_law.vmany)))))) (tAug St_law.vmany (St_law.set_vmany) addI (pu (pC (1 : Int)))))
      (tSet (St_law.set_vbest) (pu (pIf (pOp gtO (pV St_law.vmany) (pUn (fun (p : (Int × Int × Int)) => some p.2.2) (pV St_law.vbest))) (pMap (fun (a : Int × Int × Int × Unit) => ((a.1, a.2.1, a.2.2.1) : (Int × Int × Int))) (pCons (pV St_law.vbegin) (pCons (pV St_law.vother) (pCons (pV St_law.vmany) pNil)))) (pV St_law.vbest))))))))
      (tIf (pu (pNot (pUn (alikeO (e3 eI eI eI)) (pCons (pUn d_longest_twice (pCons (pV St_law.vrow) pNil)) (pCons (pV St_law.vbest) pNil))))) (tRet (pu (pC false))) tNil)))))))))))
      (tRet (pu (pC true)))))
set_option maxHeartbeats 4000000 in
def x_law : { x : AS // LS V_law t_law b_law eB x } := ⟨_,
      (ls_seq (ls_set s_law_vw (pl_w (pl_fn fn_draws (pa_cons (le_Fz (pl_V g_law_vscript)) (pa_cons (le_Fz (pl_C (ea := eI) rfl)) pa_nil)))))
      (ls_seq (ls_for (pi_rng1 (pa_cons (pl_C (ea := eI) rfl) pa_nil)) (lg_n s_law_vturn) (ls_seq (ls_set s_law_vsome (le_fnB (fn_pickL rfl rfl) g_law_vw s_law_vw (pa_cons (le_Fz (pl_lst (g := (fun (a : (List Tx) × (List Tx) × (List Tx) × (List Tx) × Unit) => ([a.1, a.2.1, a.2.2.1, a.2.2.2.1] : (List (List Tx))))) (es := (eCons (eL eS) (eCons (eL eS) (eCons (eL eS) (eCons (eL eS) eNil))))) (eb := (eL (eL eS))) (fun _ => rfl) (fun _ => (by decide : 4 ≤ sizeLine)) (pa_cons (le_Fz (pl_lst (g := (fun (a : Tx × Unit) => ([a.1] : (List Tx)))) (es := (eCons eS eNil)) (eb := (eL eS)) (fun _ => rfl) (fun _ => (by decide : 1 ≤ sizeLine)) (pa_cons (le_Fz (pl_C (ea := eS) (eS_lit (by decide +kernel)))) pa_nil))) (pa_cons (le_Fz (pl_lst (g := (fun (a : Tx × Tx × Unit) => ([a.1, a.2.1] : (List Tx)))) (es := (eCons eS (eCons eS eNil))) (eb := (eL eS)) (fun _ => rfl) (fun _ => (by decide : 2 ≤ sizeLine)) (pa_cons (le_Fz (pl_C (ea := eS) (eS_lit (by decide +kernel)))) (pa_cons (le_Fz (pl_C (ea := eS) (eS_lit (by decide +kernel)))) pa_nil)))) (pa_cons (le_Fz (pl_lst (g := (fun (a : Tx × Tx × Unit) => ([a.1, a.2.1] : (List Tx)))) (es := (eCons eS (eCons eS eNil))) (eb := (eL eS)) (fun _ => rfl) (fun _ => (by decide : 2 ≤ sizeLine)) (pa_cons (le_Fz (pl_C (ea := eS) (eS_lit (by decide +kernel)))) (pa_cons (le_Fz (pl_C (ea := eS) (eS_lit (by decide +kernel)))) pa_nil)))) (pa_cons (le_Fz (pl_lst (g := (fun (a : Tx × Tx × Tx × Unit) => ([a.1, a.2.1, a.2.2.1] : (List Tx)))) (es := (eCons eS (eCons eS (eCons eS eNil)))) (eb := (eL eS)) (fun _ => rfl) (fun _ => (by decide : 3 ≤ sizeLine)) (pa_cons (le_Fz (pl_C (ea := eS) (eS_lit (by decide +kernel)))) (pa_cons (le_Fz (pl_C (ea := eS) (eS_lit (by decide +kernel)))) (pa_cons (le_Fz (pl_C (ea := eS) (eS_lit (by decide +kernel)))) pa_nil))))) pa_nil)))))) pa_nil)))
      (ls_seq (ls_set s_law_vrow (le_call h_tupleL (la_cons (le_lc (own := [12]) (li_rng1 (la_cons (le_fnB (fn_next rfl) g_law_vw s_law_vw (pa_cons (le_Fz (pl_C (ea := eI) rfl)) pa_nil)) pa_nil)) (lg_n s_law_vk) pt_yes (le_fnB (fn_pickL rfl rfl) g_law_vw s_law_vw (pa_cons (le_Fz (pl_V g_law_vsome)) pa_nil)) (by decide) (fun s0 s j hj => by simp only [List.mem_cons, List.not_mem_nil, or_false] at hj; subst hj; rfl) (rst1 fun _ _ => ⟨_, rfl⟩)) pa_nil)))
      (ls_seq (ls_if (lt_asB (le_op (h_alt2 h_eqO) (le_fnB (fn_next rfl) g_law_vw s_law_vw (pa_cons (le_Fz (pl_C (ea := eI) rfl)) pa_nil)) (pl_C (ea := eI) rfl))) (ls_set s_law_vrow (pl_slT (pl_op h_catT (pl_op h_repT (pl_slT (pl_V g_law_vrow) so_n (so_s (pl_C (ea := eI) rfl))) (pl_C (ea := eI) rfl)) (pl_slT (pl_V g_law_vrow) (so_s (pl_C (ea := eI) rfl)) (so_s (pl_C (ea := eI) rfl)))) so_n (so_s (pl_C (ea := eI) rfl)))) ls_nil)
      (ls_seq (ls_if (pt_not (lt_asB (pl_fn (fn_alike (e := eI) rfl) (pa_cons (le_Fz (pl_fn fn_least_period (pa_cons (le_Fz (pl_V g_law_vrow)) pa_nil))) (pa_cons (le_Fz (pl_fn fn__law_period (pa_cons (le_Fz (pl_V g_law_vrow)) pa_nil))) pa_nil))))) (ls_ret (pl_C (ea := eB) rfl)) ls_nil)
      (ls_seq (ls_set s_law_vfound (pl_lst (eb := (eL (e3 eI eI eI))) (fun _ => rfl) (fun _ => Nat.zero_le _) pa_nil))
      (ls_seq (ls_for (pi_rng1 (pa_cons (pl_call (h_alt h_lenT) (pa_cons (pl_V g_law_vrow) pa_nil)) pa_nil)) (lg_n s_law_vbegin) (ls_for (pi_rng2 (pa_cons (pl_op h_addI (pl_V g_law_vbegin) (pl_C (ea := eI) rfl)) (pa_cons (pl_op h_addI (pl_call (h_alt h_lenT) (pa_cons (pl_V g_law_vrow) pa_nil)) (pl_C (ea := eI) rfl)) pa_nil))) (lg_n s_law_vend) (ls_seq (ls_set s_law_vp (le_Fz (pl_fn fn__law_period (pa_cons (le_Fz (pl_slT (pl_V g_law_vrow) (so_s (pl_V g_law_vbegin)) (so_s (pl_V g_law_vend)))) pa_nil))))
      (ls_if (pt_and (lt_asB (pl_op h_leGI (pl_op h_mulO (pl_C (ea := eI) rfl) (pl_V g_law_vp)) (pl_op h_subI (pl_V g_law_vend) (pl_V g_law_vbegin)))) (pt_and (pt_or (lt_asB (pl_op (h_alt2 h_eqO) (pl_V g_law_vbegin) (pl_C (ea := eI) rfl))) (lt_asB (pl_op (h_alt2 h_neO) (pl_op h_ixT (pl_V g_law_vrow) (pl_op h_subI (pl_V g_law_vbegin) (pl_C (ea := eI) rfl))) (pl_op h_ixT (pl_V g_law_vrow) (pl_op h_addI (pl_op h_subI (pl_V g_law_vbegin) (pl_C (ea := eI) rfl)) (pl_V g_law_vp)))))) (pt_or (lt_asB (pl_op (h_alt2 h_eqO) (pl_V g_law_vend) (pl_call (h_alt h_lenT) (pa_cons (pl_V g_law_vrow) pa_nil)))) (lt_asB (pl_op (h_alt2 h_neO) (pl_op h_ixT (pl_V g_law_vrow) (pl_V g_law_vend)) (pl_op h_ixT (pl_V g_law_vrow) (pl_op h_subI (pl_V g_law_vend) (pl_V g_law_vp)))))))) (ls_drop (le_mut h_appO (fun _ => rfl) g_law_vfound s_law_vfound (pa_cons (le_Fz (pl_tup (g := (fun (a : Int × Int × Int × Unit) => ((a.1, a.2.1, a.2.2.1) : (Int × Int × Int)))) (es := (eCons eI (eCons eI (eCons eI eNil)))) (eb := (e3 eI eI eI)) (fun _ => rfl) (fun _ => (by decide : 3 ≤ sizeLine)) (pa_cons (le_Fz (pl_V g_law_vbegin)) (pa_cons (le_Fz (pl_V g_law_vp)) (pa_cons (le_Fz (pl_V g_law_vend)) pa_nil))))) pa_nil))) ls_nil))))
      (ls_seq (ls_if (pt_not (lt_asB (pl_fn (fn_alike (e := (eT (e3 eI eI eI))) rfl) (pa_cons (le_Fz (pl_fn fn_repeats (pa_cons (le_Fz (pl_V g_law_vrow)) pa_nil))) (pa_cons (le_Fz (pl_call h_tupleL (pa_cons (pl_call (h_alt h_sortX) (pa_cons (pl_V g_law_vfound) pa_nil)) pa_nil))) pa_nil))))) (ls_ret (pl_C (ea := eB) rfl)) ls_nil)
      (ls_seq (ls_set s_law_vbest (pl_tup (g := (fun (a : Int × Int × Int × Unit) => ((a.1, a.2.1, a.2.2.1) : (Int × Int × Int)))) (es := (eCons eI (eCons eI (eCons eI eNil)))) (eb := (e3 eI eI eI)) (fun _ => rfl) (fun _ => (by decide : 3 ≤ sizeLine)) (pa_cons (le_Fz (pl_C (ea := eI) rfl)) (pa_cons (le_Fz (pl_C (ea := eI) rfl)) (pa_cons (le_Fz (pl_C (ea := eI) rfl)) pa_nil)))))
      (ls_seq (ls_for (pi_rng1 (pa_cons (pl_call (h_alt h_lenT) (pa_cons (pl_V g_law_vrow) pa_nil)) pa_nil)) (lg_n s_law_vbegin) (ls_for (pi_rng2 (pa_cons (pl_op h_addI (pl_V g_law_vbegin) (pl_C (ea := eI) rfl)) (pa_cons (pl_call (h_alt h_lenT) (pa_cons (pl_V g_law_vrow) pa_nil)) pa_nil))) (lg_n s_law_vother) (ls_seq (ls_set s_law_vmany (pl_C (ea := eI) rfl))
      (ls_seq (ls_while (pt_and (lt_asB (pl_op h_ltGI (pl_op h_addI (pl_V g_law_vother) (pl_V g_law_vmany)) (pl_call (h_alt h_lenT) (pa_cons (pl_V g_law_vrow) pa_nil)))) (lt_asB (pl_op (h_alt2 h_eqO) (pl_op h_ixT (pl_V g_law_vrow) (pl_op h_addI (pl_V g_law_vbegin) (pl_V g_law_vmany))) (pl_op h_ixT (pl_V g_law_vrow) (pl_op h_addI (pl_V g_law_vother) (pl_V g_law_vmany)))))) (ls_aug h_augI g_law_vmany s_law_vmany (pl_C (ea := eI) rfl)))
      (ls_set s_law_vbest (pl_if (lt_asB (pl_op h_gtGI (pl_V g_law_vmany) (pl_prj (F := (fun (p : (Int × Int × Int)) => some p.2.2)) (ea := (e3 eI eI eI)) (eb := eI) (fun x z h => by cases h; rfl) (pl_V g_law_vbest)))) (pl_tup (g := (fun (a : Int × Int × Int × Unit) => ((a.1, a.2.1, a.2.2.1) : (Int × Int × Int)))) (es := (eCons eI (eCons eI (eCons eI eNil)))) (eb := (e3 eI eI eI)) (fun _ => rfl) (fun _ => (by decide : 3 ≤ sizeLine)) (pa_cons (le_Fz (pl_V g_law_vbegin)) (pa_cons (le_Fz (pl_V g_law_vother)) (pa_cons (le_Fz (pl_V g_law_vmany)) pa_nil)))) (pl_V g_law_vbest)))))))
      (ls_if (pt_not (lt_asB (pl_fn (fn_alike (e := (e3 eI eI eI)) rfl) (pa_cons (le_Fz (pl_fn fn_longest_twice (pa_cons (le_Fz (pl_V g_law_vrow)) pa_nil))) (pa_cons (le_Fz (pl_V g_law_vbest)) pa_nil))))) (ls_ret (pl_C (ea := eB) rfl)) ls_nil)))))))))))
      (ls_ret (pl_C (ea := eB) rfl))))⟩
def d_law (a : (List Int) × Unit) : Option Bool := runT none b_law { vscript := a.1, vw := ⟨[], 0⟩, vturn := 0, vsome := [], vrow := [], vfound := [], vbegin := 0, vend := 0, vp := 0, vbest := (0, 0, 0), vother := 0, vmany := 0, vk := 0 }
theorem fn_law : FnP m_law d_law (eCons (eL eI) eNil) eB .F := fnp_on (V := V_law) (er := eB) (nn := none) (tb := b_law) (x := x_law.1) (n := 1) (k := 12) (ini := fun (a : (List Int) × Unit) => { vscript := a.1, vw := ⟨[], 0⟩, vturn := 0, vsome := [], vrow := [], vfound := [], vbegin := 0, vend := 0, vp := 0, vbest := (0, 0, 0), vother := 0, vmany := 0, vk := 0 }) rfl x_law.2 (by decide +kernel) (fun r h => by first | (cases h; rfl) | cases h) (fun _ => rfl) (fun _ => rfl)

end K30
namespace K30
open PySem PySem.Spec TL TY
abbrev R (r : List Tx) (k : Int) : Tx := gi [] r k
def again (r : List Tx) (p : Int) : Bool := (rng 0 (r.length - p)).all fun k => decide (R r k = R r (k + p))
def period (r : List Tx) : Int := ((rng 1 r.length).find? (again r)).getD (if (r.length : Int) > 1 then r.length else 1)
theorem again_iff {r : List Tx} {p : Int} : again r p = true ↔ ∀ k, 0 ≤ k → k < r.length - p → R r k = R r (k + p) := by
  unfold again
  rw [List.all_eq_true]
  exact ⟨fun h k h1 h2 => of_decide_eq_true (h k (mem_rng.mpr ⟨h1, h2⟩)), fun h k hk => decide_eq_true (h k (mem_rng.mp hk).1 (mem_rng.mp hk).2)⟩
theorem again_all {r : List Tx} {p : Int} (h : (r.length : Int) ≤ p) : again r p = true := again_iff.mpr fun k h1 h2 => by omega
theorem period_spec (r : List Tx) : 1 ≤ period r ∧ again r (period r) = true := by
  unfold period
  cases h : (rng 1 r.length).find? (again r) with
  | some p => have := find_rng_spec h; exact ⟨this.1, this.2.2.1⟩
  | none =>
    rw [Option.getD_none]
    split
    · exact ⟨by omega, again_all (Int.le_refl _)⟩
    · exact ⟨by omega, again_all (by omega)⟩
theorem least_ok {r : List Tx} (hl : r.length ≤ 1000) : d_least_period (r, ()) = some (period r) := by
  have sz := szL
  refine run_eq ?_
  unfold b_least_period
  simp only [tw_nil, tw_break, tw_cont, tw_seq, tw_if, tw_set, tw_drop, tw_ret, tw_aug, tw_put, tw_augix, tw_par, tw_par3, tw_par4, tw_for, nxt_nx, nxt_bk, nxt_ct, nxt_rt, lpt_nx, lpt_ct, lpt_bk, lpt_rt, ew_pu, ew_op, ew_un, ew_cons, ew_Map, ew_fnB, ew_mut, ew_if, ew_not, ew_and, ew_or, ew_sl, ew_slI, ew_part0, ew_part1, ew_lc, ew_yes, pw_some, pw_C, pw_V, pw_op, pw_un, pw_ch, pw_not, pw_and, pw_or, pw_if, pw_nil, pw_cons, pw_Map, pw_lc, pw_sl, pw_part0, pw_part1, pw_bm, pw_get, pw_yes, o_addI, o_subI, o_negI, o_mulO, o_divO, o_modO, o_powO, o_shlO, o_shrO, o_ltO, o_leO, o_gtO, o_geO, o_ltX, o_gtX, o_leX, o_geX, o_eqO, o_neO, o_isNO, o_isntNO, o_isN0, o_isntN0, o_inO, o_ninO, o_lenO, o_lenS, o_idO, o_sumO, o_allO, o_anyO, o_absO, o_max2O, o_min2O, o_intB, o_catO, o_repO, o_revO, o_rng1, o_rng2, o_rgL1, o_rgL2, o_zip2, o_toO, o_unO, o_sortO, o_sortIO, o_sortTO, o_minX, o_maxX, o_appO, o_extO, o_inD, o_ninD, o_putDO, o_getD1, o_cntO, o_keysO, o_keysU, o_mkDU, o_sortDO, o_eqDO, o_neDO, o_atD, decide_eq_true_eq, bool_t, ite_t, ite_f, St_least_period.set_vrow, St_least_period.set_vp, St_least_period.set_vk]
  refine ⟨inRg2 (by omega) (by omega), ?_⟩
  refine tw_forL (fun rest s => s.vrow = r ∧ (rng 1 r.length).find? (again r) = rest.find? (again r) ∧ ∀ p ∈ rest, 1 ≤ p ∧ p < r.length) _ _ ⟨rfl, rfl, fun p hp => mem_rng.mp hp⟩ (fun p rest s hs => ?_) fun s hs => ?_
  · obtain ⟨h1, h2, h3⟩ := hs
    have hp := h3 p List.mem_cons_self
    simp only [tw_nil, tw_break, tw_cont, tw_seq, tw_if, tw_set, tw_drop, tw_ret, tw_aug, tw_put, tw_augix, tw_par, tw_par3, tw_par4, tw_for, nxt_nx, nxt_bk, nxt_ct, nxt_rt, lpt_nx, lpt_ct, lpt_bk, lpt_rt, ew_pu, ew_op, ew_un, ew_cons, ew_Map, ew_fnB, ew_mut, ew_if, ew_not, ew_and, ew_or, ew_sl, ew_slI, ew_part0, ew_part1, ew_lc, ew_yes, pw_some, pw_C, pw_V, pw_op, pw_un, pw_ch, pw_not, pw_and, pw_or, pw_if, pw_nil, pw_cons, pw_Map, pw_lc, pw_sl, pw_part0, pw_part1, pw_bm, pw_get, pw_yes, o_addI, o_subI, o_negI, o_mulO, o_divO, o_modO, o_powO, o_shlO, o_shrO, o_ltO, o_leO, o_gtO, o_geO, o_ltX, o_gtX, o_leX, o_geX, o_eqO, o_neO, o_isNO, o_isntNO, o_isN0, o_isntN0, o_inO, o_ninO, o_lenO, o_lenS, o_idO, o_sumO, o_allO, o_anyO, o_absO, o_max2O, o_min2O, o_intB, o_catO, o_repO, o_revO, o_rng1, o_rng2, o_rgL1, o_rgL2, o_zip2, o_toO, o_unO, o_sortO, o_sortIO, o_sortTO, o_minX, o_maxX, o_appO, o_extO, o_inD, o_ninD, o_putDO, o_getD1, o_cntO, o_keysO, o_keysU, o_mkDU, o_sortDO, o_eqDO, o_neDO, o_atD, decide_eq_true_eq, bool_t, ite_t, ite_f, St_least_period.set_vrow, St_least_period.set_vp, St_least_period.set_vk]
    rw [h1]
    refine ⟨inRg_of (by omega), by rw [length_rng]; omega, ?_⟩
    refine pw_lcM (fun k => decide (R r k = R r (k + p))) (fun k hk => ?_) ?_
    · have hk := mem_rng.mp hk
      simp only [tw_nil, tw_break, tw_cont, tw_seq, tw_if, tw_set, tw_drop, tw_ret, tw_aug, tw_put, tw_augix, tw_par, tw_par3, tw_par4, tw_for, nxt_nx, nxt_bk, nxt_ct, nxt_rt, lpt_nx, lpt_ct, lpt_bk, lpt_rt, ew_pu, ew_op, ew_un, ew_cons, ew_Map, ew_fnB, ew_mut, ew_if, ew_not, ew_and, ew_or, ew_sl, ew_slI, ew_part0, ew_part1, ew_lc, ew_yes, pw_some, pw_C, pw_V, pw_op, pw_un, pw_ch, pw_not, pw_and, pw_or, pw_if, pw_nil, pw_cons, pw_Map, pw_lc, pw_sl, pw_part0, pw_part1, pw_bm, pw_get, pw_yes, o_addI, o_subI, o_negI, o_mulO, o_divO, o_modO, o_powO, o_shlO, o_shrO, o_ltO, o_leO, o_gtO, o_geO, o_ltX, o_gtX, o_leX, o_geX, o_eqO, o_neO, o_isNO, o_isntNO, o_isN0, o_isntN0, o_inO, o_ninO, o_lenO, o_lenS, o_idO, o_sumO, o_allO, o_anyO, o_absO, o_max2O, o_min2O, o_intB, o_catO, o_repO, o_revO, o_rng1, o_rng2, o_rgL1, o_rgL2, o_zip2, o_toO, o_unO, o_sortO, o_sortIO, o_sortTO, o_minX, o_maxX, o_appO, o_extO, o_inD, o_ninD, o_putDO, o_getD1, o_cntO, o_keysO, o_keysU, o_mkDU, o_sortDO, o_eqDO, o_neDO, o_atD, decide_eq_true_eq, bool_t, ite_t, ite_f, St_least_period.set_vrow, St_least_period.set_vp, St_least_period.set_vk]
      rw [o_atG [] ⟨by omega, by omega⟩, o_atG [] ⟨by omega, by omega⟩]
    · rw [List.all_map, show (fun k => decide (R r k = R r (k + p))) = id ∘ fun k => decide (R r k = R r (k + p)) from rfl] at *
      show if again r p = true then _ else _
      rw [find_cons] at h2
      by_cases ha : again r p = true
      · rw [if_pos ha] at h2 ⊢
        unfold period; rw [h2]; rfl
      · rw [if_neg ha] at h2 ⊢
        exact ⟨rfl, h2, fun q hq => h3 q (List.mem_cons_of_mem _ hq)⟩
  · obtain ⟨h1, h2, _⟩ := hs
    simp only [tw_nil, tw_break, tw_cont, tw_seq, tw_if, tw_set, tw_drop, tw_ret, tw_aug, tw_put, tw_augix, tw_par, tw_par3, tw_par4, tw_for, nxt_nx, nxt_bk, nxt_ct, nxt_rt, lpt_nx, lpt_ct, lpt_bk, lpt_rt, ew_pu, ew_op, ew_un, ew_cons, ew_Map, ew_fnB, ew_mut, ew_if, ew_not, ew_and, ew_or, ew_sl, ew_slI, ew_part0, ew_part1, ew_lc, ew_yes, pw_some, pw_C, pw_V, pw_op, pw_un, pw_ch, pw_not, pw_and, pw_or, pw_if, pw_nil, pw_cons, pw_Map, pw_lc, pw_sl, pw_part0, pw_part1, pw_bm, pw_get, pw_yes, o_addI, o_subI, o_negI, o_mulO, o_divO, o_modO, o_powO, o_shlO, o_shrO, o_ltO, o_leO, o_gtO, o_geO, o_ltX, o_gtX, o_leX, o_geX, o_eqO, o_neO, o_isNO, o_isntNO, o_isN0, o_isntN0, o_inO, o_ninO, o_lenO, o_lenS, o_idO, o_sumO, o_allO, o_anyO, o_absO, o_max2O, o_min2O, o_intB, o_catO, o_repO, o_revO, o_rng1, o_rng2, o_rgL1, o_rgL2, o_zip2, o_toO, o_unO, o_sortO, o_sortIO, o_sortTO, o_minX, o_maxX, o_appO, o_extO, o_inD, o_ninD, o_putDO, o_getD1, o_cntO, o_keysO, o_keysU, o_mkDU, o_sortDO, o_eqDO, o_neDO, o_atD, decide_eq_true_eq, bool_t, ite_t, ite_f, St_least_period.set_vrow, St_least_period.set_vp, St_least_period.set_vk]
    rw [h1]
    unfold period; rw [h2]; rfl
theorem lawp_ok {r : List Tx} (hl : r.length ≤ 1000) : d__law_period (r, ()) = some (period r) := by
  have sz := szL
  refine run_eq ?_
  unfold b__law_period
  simp only [tw_nil, tw_break, tw_cont, tw_seq, tw_if, tw_set, tw_drop, tw_ret, tw_aug, tw_put, tw_augix, tw_par, tw_par3, tw_par4, tw_for, nxt_nx, nxt_bk, nxt_ct, nxt_rt, lpt_nx, lpt_ct, lpt_bk, lpt_rt, ew_pu, ew_op, ew_un, ew_cons, ew_Map, ew_fnB, ew_mut, ew_if, ew_not, ew_and, ew_or, ew_sl, ew_slI, ew_part0, ew_part1, ew_lc, ew_yes, pw_some, pw_C, pw_V, pw_op, pw_un, pw_ch, pw_not, pw_and, pw_or, pw_if, pw_nil, pw_cons, pw_Map, pw_lc, pw_sl, pw_part0, pw_part1, pw_bm, pw_get, pw_yes, o_addI, o_subI, o_negI, o_mulO, o_divO, o_modO, o_powO, o_shlO, o_shrO, o_ltO, o_leO, o_gtO, o_geO, o_ltX, o_gtX, o_leX, o_geX, o_eqO, o_neO, o_isNO, o_isntNO, o_isN0, o_isntN0, o_inO, o_ninO, o_lenO, o_lenS, o_idO, o_sumO, o_allO, o_anyO, o_absO, o_max2O, o_min2O, o_intB, o_catO, o_repO, o_revO, o_rng1, o_rng2, o_rgL1, o_rgL2, o_zip2, o_toO, o_unO, o_sortO, o_sortIO, o_sortTO, o_minX, o_maxX, o_appO, o_extO, o_inD, o_ninD, o_putDO, o_getD1, o_cntO, o_keysO, o_keysU, o_mkDU, o_sortDO, o_eqDO, o_neDO, o_atD, decide_eq_true_eq, bool_t, ite_t, ite_f, St__law_period.set_vrow, St__law_period.set_vable, St__law_period.set_vp, St__law_period.set_vk]
  refine ⟨inRg2 (by omega) (by omega), by rw [length_rng]; omega, ?_⟩
  refine pw_lcO (again r) (fun p => p) (fun p hp => ?_) (fun p hp _ => ?_) ?_
  · have hp := mem_rng.mp hp
    simp only [tw_nil, tw_break, tw_cont, tw_seq, tw_if, tw_set, tw_drop, tw_ret, tw_aug, tw_put, tw_augix, tw_par, tw_par3, tw_par4, tw_for, nxt_nx, nxt_bk, nxt_ct, nxt_rt, lpt_nx, lpt_ct, lpt_bk, lpt_rt, ew_pu, ew_op, ew_un, ew_cons, ew_Map, ew_fnB, ew_mut, ew_if, ew_not, ew_and, ew_or, ew_sl, ew_slI, ew_part0, ew_part1, ew_lc, ew_yes, pw_some, pw_C, pw_V, pw_op, pw_un, pw_ch, pw_not, pw_and, pw_or, pw_if, pw_nil, pw_cons, pw_Map, pw_lc, pw_sl, pw_part0, pw_part1, pw_bm, pw_get, pw_yes, o_addI, o_subI, o_negI, o_mulO, o_divO, o_modO, o_powO, o_shlO, o_shrO, o_ltO, o_leO, o_gtO, o_geO, o_ltX, o_gtX, o_leX, o_geX, o_eqO, o_neO, o_isNO, o_isntNO, o_isN0, o_isntN0, o_inO, o_ninO, o_lenO, o_lenS, o_idO, o_sumO, o_allO, o_anyO, o_absO, o_max2O, o_min2O, o_intB, o_catO, o_repO, o_revO, o_rng1, o_rng2, o_rgL1, o_rgL2, o_zip2, o_toO, o_unO, o_sortO, o_sortIO, o_sortTO, o_minX, o_maxX, o_appO, o_extO, o_inD, o_ninD, o_putDO, o_getD1, o_cntO, o_keysO, o_keysU, o_mkDU, o_sortDO, o_eqDO, o_neDO, o_atD, decide_eq_true_eq, bool_t, ite_t, ite_f, St__law_period.set_vrow, St__law_period.set_vable, St__law_period.set_vp, St__law_period.set_vk]
    refine ⟨inRg_of (by omega), by rw [length_rng]; omega, ?_⟩
    refine pw_lcO (fun k => decide (R r k ≠ R r (k + p))) (fun k => k) (fun k hk => ?_) (fun k hk _ => ?_) ?_
    · have hk := mem_rng.mp hk
      simp only [tw_nil, tw_break, tw_cont, tw_seq, tw_if, tw_set, tw_drop, tw_ret, tw_aug, tw_put, tw_augix, tw_par, tw_par3, tw_par4, tw_for, nxt_nx, nxt_bk, nxt_ct, nxt_rt, lpt_nx, lpt_ct, lpt_bk, lpt_rt, ew_pu, ew_op, ew_un, ew_cons, ew_Map, ew_fnB, ew_mut, ew_if, ew_not, ew_and, ew_or, ew_sl, ew_slI, ew_part0, ew_part1, ew_lc, ew_yes, pw_some, pw_C, pw_V, pw_op, pw_un, pw_ch, pw_not, pw_and, pw_or, pw_if, pw_nil, pw_cons, pw_Map, pw_lc, pw_sl, pw_part0, pw_part1, pw_bm, pw_get, pw_yes, o_addI, o_subI, o_negI, o_mulO, o_divO, o_modO, o_powO, o_shlO, o_shrO, o_ltO, o_leO, o_gtO, o_geO, o_ltX, o_gtX, o_leX, o_geX, o_eqO, o_neO, o_isNO, o_isntNO, o_isN0, o_isntN0, o_inO, o_ninO, o_lenO, o_lenS, o_idO, o_sumO, o_allO, o_anyO, o_absO, o_max2O, o_min2O, o_intB, o_catO, o_repO, o_revO, o_rng1, o_rng2, o_rgL1, o_rgL2, o_zip2, o_toO, o_unO, o_sortO, o_sortIO, o_sortTO, o_minX, o_maxX, o_appO, o_extO, o_inD, o_ninD, o_putDO, o_getD1, o_cntO, o_keysO, o_keysU, o_mkDU, o_sortDO, o_eqDO, o_neDO, o_atD, decide_eq_true_eq, bool_t, ite_t, ite_f, St__law_period.set_vrow, St__law_period.set_vable, St__law_period.set_vp, St__law_period.set_vk]
      rw [o_atG [] ⟨by omega, by omega⟩, o_atG [] ⟨by omega, by omega⟩]
    · simp only [tw_nil, tw_break, tw_cont, tw_seq, tw_if, tw_set, tw_drop, tw_ret, tw_aug, tw_put, tw_augix, tw_par, tw_par3, tw_par4, tw_for, nxt_nx, nxt_bk, nxt_ct, nxt_rt, lpt_nx, lpt_ct, lpt_bk, lpt_rt, ew_pu, ew_op, ew_un, ew_cons, ew_Map, ew_fnB, ew_mut, ew_if, ew_not, ew_and, ew_or, ew_sl, ew_slI, ew_part0, ew_part1, ew_lc, ew_yes, pw_some, pw_C, pw_V, pw_op, pw_un, pw_ch, pw_not, pw_and, pw_or, pw_if, pw_nil, pw_cons, pw_Map, pw_lc, pw_sl, pw_part0, pw_part1, pw_bm, pw_get, pw_yes, o_addI, o_subI, o_negI, o_mulO, o_divO, o_modO, o_powO, o_shlO, o_shrO, o_ltO, o_leO, o_gtO, o_geO, o_ltX, o_gtX, o_leX, o_geX, o_eqO, o_neO, o_isNO, o_isntNO, o_isN0, o_isntN0, o_inO, o_ninO, o_lenO, o_lenS, o_idO, o_sumO, o_allO, o_anyO, o_absO, o_max2O, o_min2O, o_intB, o_catO, o_repO, o_revO, o_rng1, o_rng2, o_rgL1, o_rgL2, o_zip2, o_toO, o_unO, o_sortO, o_sortIO, o_sortTO, o_minX, o_maxX, o_appO, o_extO, o_inD, o_ninD, o_putDO, o_getD1, o_cntO, o_keysO, o_keysU, o_mkDU, o_sortDO, o_eqDO, o_neDO, o_atD, decide_eq_true_eq, bool_t, ite_t, ite_f, St__law_period.set_vrow, St__law_period.set_vable, St__law_period.set_vp, St__law_period.set_vk]
    · rw [List.map_id']
      unfold again
      rw [Bool.eq_iff_iff, decide_eq_true_iff, List.filter_eq_nil_iff, List.all_eq_true]
      exact ⟨fun h k hk => by have := h k hk; simpa using this, fun h k hk => by have := h k hk; simpa using this⟩
  · simp only [tw_nil, tw_break, tw_cont, tw_seq, tw_if, tw_set, tw_drop, tw_ret, tw_aug, tw_put, tw_augix, tw_par, tw_par3, tw_par4, tw_for, nxt_nx, nxt_bk, nxt_ct, nxt_rt, lpt_nx, lpt_ct, lpt_bk, lpt_rt, ew_pu, ew_op, ew_un, ew_cons, ew_Map, ew_fnB, ew_mut, ew_if, ew_not, ew_and, ew_or, ew_sl, ew_slI, ew_part0, ew_part1, ew_lc, ew_yes, pw_some, pw_C, pw_V, pw_op, pw_un, pw_ch, pw_not, pw_and, pw_or, pw_if, pw_nil, pw_cons, pw_Map, pw_lc, pw_sl, pw_part0, pw_part1, pw_bm, pw_get, pw_yes, o_addI, o_subI, o_negI, o_mulO, o_divO, o_modO, o_powO, o_shlO, o_shrO, o_ltO, o_leO, o_gtO, o_geO, o_ltX, o_gtX, o_leX, o_geX, o_eqO, o_neO, o_isNO, o_isntNO, o_isN0, o_isntN0, o_inO, o_ninO, o_lenO, o_lenS, o_idO, o_sumO, o_allO, o_anyO, o_absO, o_max2O, o_min2O, o_intB, o_catO, o_repO, o_revO, o_rng1, o_rng2, o_rgL1, o_rgL2, o_zip2, o_toO, o_unO, o_sortO, o_sortIO, o_sortTO, o_minX, o_maxX, o_appO, o_extO, o_inD, o_ninD, o_putDO, o_getD1, o_cntO, o_keysO, o_keysU, o_mkDU, o_sortDO, o_eqDO, o_neDO, o_atD, decide_eq_true_eq, bool_t, ite_t, ite_f, St__law_period.set_vrow, St__law_period.set_vable, St__law_period.set_vp, St__law_period.set_vk]
  · rw [List.map_id']
    have key : ((rng 1 ((r.length : Int) + 1)).filter (again r)).head?.getD 1 = period r := by
      rw [filter_head]
      unfold period
      by_cases h : (r.length : Int) > 0
      · rw [rng_snoc (by omega), List.find?_append]
        cases hf : (rng 1 r.length).find? (again r) with
        | some p => rfl
        | none =>
          rw [find_cons, if_pos (again_all (Int.le_refl _))]
          simp only [Option.getD_none, Option.none_or, Option.getD_some]
          split <;> omega
      · rw [rng_nil (by omega), rng_nil (by omega)]
        simp only [List.find?_nil, Option.getD_none]
        rw [if_neg (by omega)]
    cases hx : (rng 1 ((r.length : Int) + 1)).filter (again r) with
    | nil =>
      rw [hx] at key
      rw [if_neg (by simp)]
      exact key
    | cons a as =>
      rw [hx] at key
      rw [if_pos (by simp), o_atO0]
      exact key
/-! ### how far it goes on -/
def ext (r : List Tx) (p e : Int) : Int := ((rng e r.length).find? fun j => decide (R r j ≠ R r (j - p))).getD r.length
def IsExt (r : List Tx) (p e x : Int) : Prop := e ≤ x ∧ x ≤ r.length ∧ (∀ j, e ≤ j → j < x → R r j = R r (j - p)) ∧ (x = r.length ∨ R r x ≠ R r (x - p))
theorem ext_spec {r : List Tx} {p e : Int} (h : e ≤ r.length) : IsExt r p e (ext r p e) := by
  unfold ext
  cases hf : (rng e r.length).find? (fun j => decide (R r j ≠ R r (j - p))) with
  | some x =>
    obtain ⟨h1, h2, h3, h4⟩ := find_rng_spec hf
    exact ⟨h1, by simp only [Option.getD_some]; omega, fun j g1 g2 => by have := h4 j g1 g2; simpa using this, .inr (of_decide_eq_true h3)⟩
  | none =>
    exact ⟨h, Int.le_refl _, fun j g1 g2 => by have := find_rng_none hf j g1 g2; simpa using this, .inl rfl⟩
theorem ext_uniq {r : List Tx} {p e x : Int} (h : IsExt r p e x) : ext r p e = x := by
  obtain ⟨h1, h2, h3, h4⟩ := h
  obtain ⟨g1, g2, g3, g4⟩ := ext_spec (r := r) (p := p) (e := e) (by omega)
  rcases Int.lt_trichotomy (ext r p e) x with k | k | k
  · rcases g4 with g4 | g4
    · omega
    · exact absurd (h3 _ g1 k) g4
  · exact k
  · rcases h4 with h4 | h4
    · omega
    · exact absurd (g3 _ h1 k) h4
theorem stretch_ok {r : List Tx} {b p : Int} (hl : r.length ≤ 1000) (hb : 0 ≤ b) (hp : 1 ≤ p) (hn : b + p ≤ r.length) : d_stretch_from (r, b, p, ()) = some (ext r p (b + p)) := by
  refine run_eq ?_
  unfold b_stretch_from
  simp only [tw_nil, tw_break, tw_cont, tw_seq, tw_if, tw_set, tw_drop, tw_ret, tw_aug, tw_put, tw_augix, tw_par, tw_par3, tw_par4, tw_for, nxt_nx, nxt_bk, nxt_ct, nxt_rt, lpt_nx, lpt_ct, lpt_bk, lpt_rt, ew_pu, ew_op, ew_un, ew_cons, ew_Map, ew_fnB, ew_mut, ew_if, ew_not, ew_and, ew_or, ew_sl, ew_slI, ew_part0, ew_part1, ew_lc, ew_yes, pw_some, pw_C, pw_V, pw_op, pw_un, pw_ch, pw_not, pw_and, pw_or, pw_if, pw_nil, pw_cons, pw_Map, pw_lc, pw_sl, pw_part0, pw_part1, pw_bm, pw_get, pw_yes, o_addI, o_subI, o_negI, o_mulO, o_divO, o_modO, o_powO, o_shlO, o_shrO, o_ltO, o_leO, o_gtO, o_geO, o_ltX, o_gtX, o_leX, o_geX, o_eqO, o_neO, o_isNO, o_isntNO, o_isN0, o_isntN0, o_inO, o_ninO, o_lenO, o_lenS, o_idO, o_sumO, o_allO, o_anyO, o_absO, o_max2O, o_min2O, o_intB, o_catO, o_repO, o_revO, o_rng1, o_rng2, o_rgL1, o_rgL2, o_zip2, o_toO, o_unO, o_sortO, o_sortIO, o_sortTO, o_minX, o_maxX, o_appO, o_extO, o_inD, o_ninD, o_putDO, o_getD1, o_cntO, o_keysO, o_keysU, o_mkDU, o_sortDO, o_eqDO, o_neDO, o_atD, decide_eq_true_eq, bool_t, ite_t, ite_f, St_stretch_from.set_vrow, St_stretch_from.set_vbegin, St_stretch_from.set_vperiod, St_stretch_from.set_vend]
  refine tw_while (k := 1000) (fun m s => s.vrow = r ∧ s.vperiod = p ∧ p ≤ s.vend ∧ s.vend ≤ r.length ∧ ext r p s.vend = ext r p (b + p) ∧ (r.length : Int) - s.vend ≤ m) ⟨rfl, rfl, by simp only; omega, by simp only; omega, rfl, by simp only; omega⟩ (by decide) ?_
  rintro m s ⟨h1, h2, h3, h4, h5, h6⟩
  simp only [tw_nil, tw_break, tw_cont, tw_seq, tw_if, tw_set, tw_drop, tw_ret, tw_aug, tw_put, tw_augix, tw_par, tw_par3, tw_par4, tw_for, nxt_nx, nxt_bk, nxt_ct, nxt_rt, lpt_nx, lpt_ct, lpt_bk, lpt_rt, ew_pu, ew_op, ew_un, ew_cons, ew_Map, ew_fnB, ew_mut, ew_if, ew_not, ew_and, ew_or, ew_sl, ew_slI, ew_part0, ew_part1, ew_lc, ew_yes, pw_some, pw_C, pw_V, pw_op, pw_un, pw_ch, pw_not, pw_and, pw_or, pw_if, pw_nil, pw_cons, pw_Map, pw_lc, pw_sl, pw_part0, pw_part1, pw_bm, pw_get, pw_yes, o_addI, o_subI, o_negI, o_mulO, o_divO, o_modO, o_powO, o_shlO, o_shrO, o_ltO, o_leO, o_gtO, o_geO, o_ltX, o_gtX, o_leX, o_geX, o_eqO, o_neO, o_isNO, o_isntNO, o_isN0, o_isntN0, o_inO, o_ninO, o_lenO, o_lenS, o_idO, o_sumO, o_allO, o_anyO, o_absO, o_max2O, o_min2O, o_intB, o_catO, o_repO, o_revO, o_rng1, o_rng2, o_rgL1, o_rgL2, o_zip2, o_toO, o_unO, o_sortO, o_sortIO, o_sortTO, o_minX, o_maxX, o_appO, o_extO, o_inD, o_ninD, o_putDO, o_getD1, o_cntO, o_keysO, o_keysU, o_mkDU, o_sortDO, o_eqDO, o_neDO, o_atD, decide_eq_true_eq, bool_t, ite_t, ite_f, St_stretch_from.set_vrow, St_stretch_from.set_vbegin, St_stretch_from.set_vperiod, St_stretch_from.set_vend]
  rw [h1, h2]
  by_cases h : s.vend < r.length
  · rw [if_pos h, o_atG [] ⟨by omega, by omega⟩, o_atG [] ⟨by omega, by omega⟩]
    unfold ext at h5
    rw [rng_cons h, find_cons] at h5
    by_cases hq : R r s.vend = R r (s.vend - p)
    · rw [if_pos hq]
      rw [if_neg (by simpa using hq)] at h5
      exact ⟨m - 1, by omega, rfl, rfl, by omega, by omega, h5, by omega⟩
    · rw [if_neg hq]
      rw [if_pos (by simpa using hq)] at h5
      exact h5
  · rw [if_neg h]
    have : s.vend = r.length := by omega
    rw [this, show ext r p r.length = r.length from by unfold ext; rw [rng_nil (by omega)]; rfl] at h5
    show s.vend = _
    rw [this]; exact h5
def St (r : List Tx) (p b : Int) : Prop := b = 0 ∨ R r (b - 1) ≠ R r (b - 1 + p)
instance (r : List Tx) (p b : Int) : Decidable (St r p b) := by unfold St; exact inferInstance
def cut (r : List Tx) (b e : Int) : List Tx := cutL r (some b) (some e)
theorem cut_again {r : List Tx} {b x p : Int} (h : 0 ≤ b ∧ b ≤ x ∧ x ≤ r.length) (hp : 1 ≤ p) : again (cut r b x) p = true ↔ ∀ j, b + p ≤ j → j < x → R r j = R r (j - p) := by
  rw [again_iff]
  have hl : ((cut r b x).length : Int) = x - b := by unfold cut; rw [length_cut h]; omega
  rw [hl]
  constructor
  · intro g j g1 g2
    have := g (j - p - b) (by omega) (by omega)
    unfold R cut at this
    rw [gi_cut ⟨h.1, h.2.2⟩ ⟨by omega, by omega⟩, gi_cut ⟨h.1, h.2.2⟩ ⟨by omega, by omega⟩, show b + (j - p - b) = j - p by omega, show b + (j - p - b + p) = j by omega] at this
    exact this.symm
  · intro g k g1 g2
    have := g (b + k + p) (by omega) (by omega)
    unfold R cut
    rw [gi_cut ⟨h.1, h.2.2⟩ ⟨by omega, by omega⟩, gi_cut ⟨h.1, h.2.2⟩ ⟨by omega, by omega⟩]
    rw [show b + k + p - p = b + k by omega] at this
    rw [show b + (k + p) = b + k + p by omega]; exact this.symm
/-- one beginning -/
def rb (r : List Tx) (p b : Int) : List (Int × Int × Int) := if St r p b ∧ 2 * p ≤ ext r p (b + p) - b ∧ period (cut r b (ext r p (b + p))) = p then [(b, p, ext r p (b + p))] else []
def rp (r : List Tx) (p : Int) : List (Int × Int × Int) := (rng 0 (r.length - 2 * p + 1)).flatMap (rb r p)
def rs (r : List Tx) : List (Int × Int × Int) := (rng 1 ((r.length : Int) / 2 + 1)).flatMap (rp r)
theorem rb_len (r : List Tx) (p b : Int) : (rb r p b).length ≤ 1 := by unfold rb; split <;> simp
theorem rp_len {r : List Tx} {p : Int} (hl : r.length ≤ 14) (hp : 1 ≤ p) : (rp r p).length ≤ 14 := by
  have := flat_le (f := rb r p) (c := 1) (xs := rng 0 (r.length - 2 * p + 1)) fun b _ => rb_len r p b
  rw [length_rng] at this
  unfold rp; omega
theorem rs_len {r : List Tx} (hl : r.length ≤ 14) : (rs r).length ≤ 98 := by
  have := flat_le (f := rp r) (c := 14) (xs := rng 1 ((r.length : Int) / 2 + 1)) fun p hp => rp_len hl (mem_rng.mp hp).1
  rw [length_rng] at this
  unfold rs; omega
theorem repeats_ok {r : List Tx} (hl : r.length ≤ 14) : d_repeats (r, ()) = some (srt (rs r)) := by
  have sz := szL
  refine run_eq ?_
  unfold b_repeats
  simp only [tw_nil, tw_break, tw_cont, tw_seq, tw_if, tw_set, tw_drop, tw_ret, tw_aug, tw_put, tw_augix, tw_par, tw_par3, tw_par4, tw_for, nxt_nx, nxt_bk, nxt_ct, nxt_rt, lpt_nx, lpt_ct, lpt_bk, lpt_rt, ew_pu, ew_op, ew_un, ew_cons, ew_Map, ew_fnB, ew_mut, ew_if, ew_not, ew_and, ew_or, ew_sl, ew_slI, ew_part0, ew_part1, ew_lc, ew_yes, pw_some, pw_C, pw_V, pw_op, pw_un, pw_ch, pw_not, pw_and, pw_or, pw_if, pw_nil, pw_cons, pw_Map, pw_lc, pw_sl, pw_part0, pw_part1, pw_bm, pw_get, pw_yes, o_addI, o_subI, o_negI, o_mulO, o_divO, o_modO, o_powO, o_shlO, o_shrO, o_ltO, o_leO, o_gtO, o_geO, o_ltX, o_gtX, o_leX, o_geX, o_eqO, o_neO, o_isNO, o_isntNO, o_isN0, o_isntN0, o_inO, o_ninO, o_lenO, o_lenS, o_idO, o_sumO, o_allO, o_anyO, o_absO, o_max2O, o_min2O, o_intB, o_catO, o_repO, o_revO, o_rng1, o_rng2, o_rgL1, o_rgL2, o_zip2, o_toO, o_unO, o_sortO, o_sortIO, o_sortTO, o_minX, o_maxX, o_appO, o_extO, o_inD, o_ninD, o_putDO, o_getD1, o_cntO, o_keysO, o_keysU, o_mkDU, o_sortDO, o_eqDO, o_neDO, o_atD, decide_eq_true_eq, bool_t, ite_t, ite_f, St_repeats.set_vrow, St_repeats.set_vfound, St_repeats.set_vperiod, St_repeats.set_vbegin, St_repeats.set_vend, St_repeats.set_vstarts]
  refine ⟨⟨by omega, by omega⟩, inRg2 (by omega) (by omega), ?_⟩
  refine tw_flat (fun s => s.vrow = r) (fun s => s.vfound) (rp r) rfl (fun p hp s hs hb => ?_) fun s hs he => ?_
  · have hp := mem_rng.mp hp
    have hrs := rs_len hl
    unfold rs at hrs
    simp only [List.length_nil, Nat.zero_add] at hb
    simp only [tw_nil, tw_break, tw_cont, tw_seq, tw_if, tw_set, tw_drop, tw_ret, tw_aug, tw_put, tw_augix, tw_par, tw_par3, tw_par4, tw_for, nxt_nx, nxt_bk, nxt_ct, nxt_rt, lpt_nx, lpt_ct, lpt_bk, lpt_rt, ew_pu, ew_op, ew_un, ew_cons, ew_Map, ew_fnB, ew_mut, ew_if, ew_not, ew_and, ew_or, ew_sl, ew_slI, ew_part0, ew_part1, ew_lc, ew_yes, pw_some, pw_C, pw_V, pw_op, pw_un, pw_ch, pw_not, pw_and, pw_or, pw_if, pw_nil, pw_cons, pw_Map, pw_lc, pw_sl, pw_part0, pw_part1, pw_bm, pw_get, pw_yes, o_addI, o_subI, o_negI, o_mulO, o_divO, o_modO, o_powO, o_shlO, o_shrO, o_ltO, o_leO, o_gtO, o_geO, o_ltX, o_gtX, o_leX, o_geX, o_eqO, o_neO, o_isNO, o_isntNO, o_isN0, o_isntN0, o_inO, o_ninO, o_lenO, o_lenS, o_idO, o_sumO, o_allO, o_anyO, o_absO, o_max2O, o_min2O, o_intB, o_catO, o_repO, o_revO, o_rng1, o_rng2, o_rgL1, o_rgL2, o_zip2, o_toO, o_unO, o_sortO, o_sortIO, o_sortTO, o_minX, o_maxX, o_appO, o_extO, o_inD, o_ninD, o_putDO, o_getD1, o_cntO, o_keysO, o_keysU, o_mkDU, o_sortDO, o_eqDO, o_neDO, o_atD, decide_eq_true_eq, bool_t, ite_t, ite_f, St_repeats.set_vrow, St_repeats.set_vfound, St_repeats.set_vperiod, St_repeats.set_vbegin, St_repeats.set_vend, St_repeats.set_vstarts]
    refine tw_while (k := 1000) (fun m s' => s'.vrow = r ∧ s'.vperiod = p ∧ 0 ≤ s'.vbegin ∧ s'.vbegin ≤ r.length ∧ s'.vfound ++ (rng s'.vbegin (r.length - 2 * p + 1)).flatMap (rb r p) = s.vfound ++ rp r p ∧ (r.length : Int) - s'.vbegin ≤ m) ⟨hs, rfl, Int.le_refl _, by simp only; omega, rfl, by simp only; omega⟩ (by decide) ?_
    rintro m s' ⟨h1, h2, h3, h4, h5, h6⟩
    simp only [tw_nil, tw_break, tw_cont, tw_seq, tw_if, tw_set, tw_drop, tw_ret, tw_aug, tw_put, tw_augix, tw_par, tw_par3, tw_par4, tw_for, nxt_nx, nxt_bk, nxt_ct, nxt_rt, lpt_nx, lpt_ct, lpt_bk, lpt_rt, ew_pu, ew_op, ew_un, ew_cons, ew_Map, ew_fnB, ew_mut, ew_if, ew_not, ew_and, ew_or, ew_sl, ew_slI, ew_part0, ew_part1, ew_lc, ew_yes, pw_some, pw_C, pw_V, pw_op, pw_un, pw_ch, pw_not, pw_and, pw_or, pw_if, pw_nil, pw_cons, pw_Map, pw_lc, pw_sl, pw_part0, pw_part1, pw_bm, pw_get, pw_yes, o_addI, o_subI, o_negI, o_mulO, o_divO, o_modO, o_powO, o_shlO, o_shrO, o_ltO, o_leO, o_gtO, o_geO, o_ltX, o_gtX, o_leX, o_geX, o_eqO, o_neO, o_isNO, o_isntNO, o_isN0, o_isntN0, o_inO, o_ninO, o_lenO, o_lenS, o_idO, o_sumO, o_allO, o_anyO, o_absO, o_max2O, o_min2O, o_intB, o_catO, o_repO, o_revO, o_rng1, o_rng2, o_rgL1, o_rgL2, o_zip2, o_toO, o_unO, o_sortO, o_sortIO, o_sortTO, o_minX, o_maxX, o_appO, o_extO, o_inD, o_ninD, o_putDO, o_getD1, o_cntO, o_keysO, o_keysU, o_mkDU, o_sortDO, o_eqDO, o_neDO, o_atD, decide_eq_true_eq, bool_t, ite_t, ite_f, St_repeats.set_vrow, St_repeats.set_vfound, St_repeats.set_vperiod, St_repeats.set_vbegin, St_repeats.set_vend, St_repeats.set_vstarts]
    rw [h1, h2]
    refine ⟨.inl ⟨by decide, by decide⟩, ?_⟩
    by_cases hc : s'.vbegin + 2 * p ≤ r.length
    · rw [if_pos hc]
      refine pw_of (stretch_ok (by omega) h3 hp.1 (by omega)) ?_
      have hx := ext_spec (r := r) (p := p) (e := s'.vbegin + p) (by omega)
      have e5 := h5
      rw [rng_cons (by omega), List.flatMap_cons] at e5
      have l5 := congrArg List.length e5
      rw [List.length_append, List.length_append, List.length_append] at l5
      have fin : ∀ (F : List (Int × Int × Int)), F = s'.vfound ++ rb r p s'.vbegin → ∃ k', k' < m ∧ r = r ∧ p = p ∧ 0 ≤ s'.vbegin + 1 ∧ s'.vbegin + 1 ≤ r.length ∧ F ++ (rng (s'.vbegin + 1) (r.length - 2 * p + 1)).flatMap (rb r p) = s.vfound ++ rp r p ∧ (r.length : Int) - (s'.vbegin + 1) ≤ (k' : Nat) := fun F e => ⟨m - 1, by omega, rfl, rfl, by omega, by omega, by rw [e, List.append_assoc]; exact e5, by omega⟩
      have tail : ∀ _ : St r p s'.vbegin, (-2 ^ 64 < (2 : Int) ∧ (2 : Int) < 2 ^ 64 ∨ -2 ^ 64 < p ∧ p < 2 ^ 64) ∧ if 2 * p ≤ ext r p (s'.vbegin + p) - s'.vbegin then Pw (d_least_period (cutL r (some s'.vbegin) (some (ext r p (s'.vbegin + p))), ())) fun x => if x = p then s'.vfound.length < sizeLine ∧ ∃ k', k' < m ∧ r = r ∧ p = p ∧ 0 ≤ s'.vbegin + 1 ∧ s'.vbegin + 1 ≤ r.length ∧ s'.vfound ++ [(s'.vbegin, p, ext r p (s'.vbegin + p))] ++ (rng (s'.vbegin + 1) (r.length - 2 * p + 1)).flatMap (rb r p) = s.vfound ++ rp r p ∧ (r.length : Int) - (s'.vbegin + 1) ≤ (k' : Nat) else ∃ k', k' < m ∧ r = r ∧ p = p ∧ 0 ≤ s'.vbegin + 1 ∧ s'.vbegin + 1 ≤ r.length ∧ s'.vfound ++ (rng (s'.vbegin + 1) (r.length - 2 * p + 1)).flatMap (rb r p) = s.vfound ++ rp r p ∧ (r.length : Int) - (s'.vbegin + 1) ≤ (k' : Nat) else ∃ k', k' < m ∧ r = r ∧ p = p ∧ 0 ≤ s'.vbegin + 1 ∧ s'.vbegin + 1 ≤ r.length ∧ s'.vfound ++ (rng (s'.vbegin + 1) (r.length - 2 * p + 1)).flatMap (rb r p) = s.vfound ++ rp r p ∧ (r.length : Int) - (s'.vbegin + 1) ≤ (k' : Nat) := by
        intro st
        refine ⟨.inl ⟨by decide, by decide⟩, ?_⟩
        by_cases h2p : 2 * p ≤ ext r p (s'.vbegin + p) - s'.vbegin
        · rw [if_pos h2p]
          have hcl : (cutL r (some s'.vbegin) (some (ext r p (s'.vbegin + p)))).length ≤ 1000 := by
            rw [length_cut ⟨h3, by have := hx.1; omega, hx.2.1⟩]
            have := hx.2.1; omega
          refine pw_of (least_ok hcl) ?_
          by_cases hq : period (cutL r (some s'.vbegin) (some (ext r p (s'.vbegin + p)))) = p
          · rw [if_pos hq]
            exact ⟨by omega, fin _ (by unfold rb; rw [if_pos ⟨st, h2p, hq⟩])⟩
          · rw [if_neg hq]
            exact fin _ (by unfold rb; rw [if_neg fun z => hq z.2.2, List.append_nil])
        · rw [if_neg h2p]
          exact fin _ (by unfold rb; rw [if_neg fun z => h2p z.2.1, List.append_nil])
      by_cases hz : s'.vbegin = 0
      · rw [if_pos hz, if_pos trivial]
        exact tail (.inl hz)
      · rw [if_neg hz, o_atG [] ⟨by omega, by omega⟩, o_atG [] ⟨by omega, by omega⟩]
        by_cases hr : R r (s'.vbegin - 1) ≠ R r (s'.vbegin - 1 + p)
        · rw [if_pos hr]
          exact tail (.inr hr)
        · rw [if_neg hr]
          exact fin _ (by unfold rb; rw [if_neg fun z => z.1.elim hz hr, List.append_nil])
    · rw [if_neg hc]
      rw [rng_nil (by omega), List.flatMap_nil, List.append_nil] at h5
      exact ⟨rfl, h5⟩
  · simp only [tw_nil, tw_break, tw_cont, tw_seq, tw_if, tw_set, tw_drop, tw_ret, tw_aug, tw_put, tw_augix, tw_par, tw_par3, tw_par4, tw_for, nxt_nx, nxt_bk, nxt_ct, nxt_rt, lpt_nx, lpt_ct, lpt_bk, lpt_rt, ew_pu, ew_op, ew_un, ew_cons, ew_Map, ew_fnB, ew_mut, ew_if, ew_not, ew_and, ew_or, ew_sl, ew_slI, ew_part0, ew_part1, ew_lc, ew_yes, pw_some, pw_C, pw_V, pw_op, pw_un, pw_ch, pw_not, pw_and, pw_or, pw_if, pw_nil, pw_cons, pw_Map, pw_lc, pw_sl, pw_part0, pw_part1, pw_bm, pw_get, pw_yes, o_addI, o_subI, o_negI, o_mulO, o_divO, o_modO, o_powO, o_shlO, o_shrO, o_ltO, o_leO, o_gtO, o_geO, o_ltX, o_gtX, o_leX, o_geX, o_eqO, o_neO, o_isNO, o_isntNO, o_isN0, o_isntN0, o_inO, o_ninO, o_lenO, o_lenS, o_idO, o_sumO, o_allO, o_anyO, o_absO, o_max2O, o_min2O, o_intB, o_catO, o_repO, o_revO, o_rng1, o_rng2, o_rgL1, o_rgL2, o_zip2, o_toO, o_unO, o_sortO, o_sortIO, o_sortTO, o_minX, o_maxX, o_appO, o_extO, o_inD, o_ninD, o_putDO, o_getD1, o_cntO, o_keysO, o_keysU, o_mkDU, o_sortDO, o_eqDO, o_neDO, o_atD, decide_eq_true_eq, bool_t, ite_t, ite_f, St_repeats.set_vrow, St_repeats.set_vfound, St_repeats.set_vperiod, St_repeats.set_vbegin, St_repeats.set_vend, St_repeats.set_vstarts]
    rw [he]
    simp only [List.nil_append]
    exact ⟨by have := rs_len hl; unfold rs at this; omega, rfl⟩
end K30
namespace K30
open PySem PySem.Spec TL TY
/-! ### the law's list is the same -/
def lb (r : List Tx) (b e : Int) : List (Int × Int × Int) := if 2 * period (cut r b e) ≤ e - b ∧ St r (period (cut r b e)) b ∧ (e = r.length ∨ R r e ≠ R r (e - period (cut r b e))) then [(b, period (cut r b e), e)] else []
def lp (r : List Tx) (b : Int) : List (Int × Int × Int) := (rng (b + 2) (r.length + 1)).flatMap (lb r b)
def ls (r : List Tx) : List (Int × Int × Int) := (rng 0 r.length).flatMap (lp r)
theorem mem_rb {r : List Tx} {p b : Int} {t : Int × Int × Int} : t ∈ rb r p b ↔ t = (b, p, ext r p (b + p)) ∧ St r p b ∧ 2 * p ≤ ext r p (b + p) - b ∧ period (cut r b (ext r p (b + p))) = p := by
  unfold rb
  split
  · rename_i h; simp [h]
  · rename_i h; simp only [List.not_mem_nil, false_iff]; exact fun z => h z.2
theorem mem_lb {r : List Tx} {b e : Int} {t : Int × Int × Int} : t ∈ lb r b e ↔ t = (b, period (cut r b e), e) ∧ 2 * period (cut r b e) ≤ e - b ∧ St r (period (cut r b e)) b ∧ (e = r.length ∨ R r e ≠ R r (e - period (cut r b e))) := by
  unfold lb
  split
  · rename_i h; simp [h]
  · rename_i h; simp only [List.not_mem_nil, false_iff]; exact fun z => h z.2
theorem mem_rs {r : List Tx} {t : Int × Int × Int} : t ∈ rs r ↔ ∃ p b : Int, 1 ≤ p ∧ 0 ≤ b ∧ b + 2 * p ≤ r.length ∧ t ∈ rb r p b := by
  unfold rs rp
  simp only [List.mem_flatMap, mem_rng]
  constructor
  · rintro ⟨p, hp, b, hb, h⟩; exact ⟨p, b, hp.1, hb.1, by omega, h⟩
  · rintro ⟨p, b, h1, h2, h3, h⟩; exact ⟨p, ⟨h1, by omega⟩, b, ⟨h2, by omega⟩, h⟩
theorem mem_ls {r : List Tx} {t : Int × Int × Int} : t ∈ ls r ↔ ∃ b e : Int, 0 ≤ b ∧ b < r.length ∧ b + 2 ≤ e ∧ e ≤ r.length ∧ t ∈ lb r b e := by
  unfold ls lp
  simp only [List.mem_flatMap, mem_rng]
  constructor
  · rintro ⟨b, hb, e, he, h⟩; exact ⟨b, e, hb.1, hb.2, he.1, by omega, h⟩
  · rintro ⟨b, e, h1, h2, h3, h4, h⟩; exact ⟨b, ⟨h1, h2⟩, e, ⟨h3, by omega⟩, h⟩
theorem same_mem {r : List Tx} {t : Int × Int × Int} : t ∈ rs r ↔ t ∈ ls r := by
  rw [mem_rs, mem_ls]
  constructor
  · rintro ⟨p, b, h1, h2, h3, h⟩
    obtain ⟨rfl, st, h4, h5⟩ := mem_rb.mp h
    have hx := ext_spec (r := r) (p := p) (e := b + p) (by omega)
    refine ⟨b, ext r p (b + p), h2, by omega, by omega, hx.2.1, mem_lb.mpr ?_⟩
    rw [h5]
    exact ⟨rfl, h4, st, hx.2.2.2⟩
  · rintro ⟨b, e, h1, h2, h3, h4, h⟩
    obtain ⟨rfl, h5, st, h6⟩ := mem_lb.mp h
    have hp := period_spec (cut r b e)
    have ha := (cut_again ⟨h1, by omega, h4⟩ hp.1).mp hp.2
    have hx : ext r (period (cut r b e)) (b + period (cut r b e)) = e := ext_uniq ⟨by omega, h4, ha, h6⟩
    refine ⟨period (cut r b e), b, hp.1, h1, by omega, mem_rb.mpr ?_⟩
    rw [hx]
    exact ⟨rfl, st, h5, rfl⟩
theorem nodup_rs (r : List Tx) : (rs r).Nodup := by
  unfold rs
  refine List.pairwise_flatMap.mpr ⟨fun p hp => ?_, (rng_sorted _ _).imp fun {p q} hpq x hx y hy e => ?_⟩
  · unfold rp
    refine List.pairwise_flatMap.mpr ⟨fun b hb => by unfold rb; split <;> simp, (rng_sorted _ _).imp fun {b c} hbc x hx y hy e => ?_⟩
    subst e
    have h1 := (mem_rb.mp hx).1
    rw [(mem_rb.mp hy).1] at h1
    simp only [Prod.mk.injEq] at h1
    omega
  · subst e
    unfold rp at hx hy
    obtain ⟨b, _, hx⟩ := List.mem_flatMap.mp hx
    obtain ⟨c, _, hy⟩ := List.mem_flatMap.mp hy
    have h1 := (mem_rb.mp hx).1
    rw [(mem_rb.mp hy).1] at h1
    simp only [Prod.mk.injEq] at h1
    omega
theorem nodup_ls (r : List Tx) : (ls r).Nodup := by
  unfold ls
  refine List.pairwise_flatMap.mpr ⟨fun p hp => ?_, (rng_sorted _ _).imp fun {p q} hpq x hx y hy e => ?_⟩
  · unfold lp
    refine List.pairwise_flatMap.mpr ⟨fun b hb => by unfold lb; split <;> simp, (rng_sorted _ _).imp fun {b c} hbc x hx y hy e => ?_⟩
    subst e
    have h1 := (mem_lb.mp hx).1
    rw [(mem_lb.mp hy).1] at h1
    simp only [Prod.mk.injEq] at h1
    omega
  · subst e
    unfold lp at hx hy
    obtain ⟨b, _, hx⟩ := List.mem_flatMap.mp hx
    obtain ⟨c, _, hy⟩ := List.mem_flatMap.mp hy
    have h1 := (mem_lb.mp hx).1
    rw [(mem_lb.mp hy).1] at h1
    simp only [Prod.mk.injEq] at h1
    omega
theorem srt_rs (r : List Tx) : srt (ls r) = srt (rs r) := srt_eq ((List.perm_ext_iff_of_nodup (nodup_ls r) (nodup_rs r)).mpr fun t => same_mem.symm)
theorem ls_len {r : List Tx} (hl : r.length ≤ 14) : (ls r).length ≤ 98 := by
  have p := (List.perm_ext_iff_of_nodup (nodup_ls r) (nodup_rs r)).mpr fun t => same_mem.symm
  rw [p.length_eq]; exact rs_len hl
/-! ### the longest that stands twice -/
def lcp (r : List Tx) (b o : Int) : Int := ((rng 0 (r.length - o)).find? fun m => decide (R r (b + m) ≠ R r (o + m))).getD (r.length - o)
def step (r : List Tx) (b : Int) (best : Int × Int × Int) (o : Int) : Int × Int × Int := if best.2.2 < lcp r b o then (b, o, lcp r b o) else best
def row (r : List Tx) (best : Int × Int × Int) (b : Int) : Int × Int × Int := (rng (b + 1) r.length).foldl (step r b) best
def lng (r : List Tx) : Int × Int × Int := (rng 0 r.length).foldl (row r) (0, 0, 0)
/-- the while-loop's state -/
def LW (r : List Tx) (b o m : Int) : Prop := 0 ≤ m ∧ m ≤ r.length - o ∧ ((rng m (r.length - o)).find? fun m => decide (R r (b + m) ≠ R r (o + m))).getD (r.length - o) = lcp r b o
theorem LW.next {r : List Tx} {b o m : Int} (h : LW r b o m) (hm : o + m < r.length) (e : R r (b + m) = R r (o + m)) : LW r b o (m + 1) := by
  obtain ⟨h1, h2, h3⟩ := h
  rw [rng_cons (by omega), find_cons, if_neg (by simpa using e)] at h3
  exact ⟨by omega, by omega, h3⟩
theorem LW.stop {r : List Tx} {b o m : Int} (h : LW r b o m) (hm : ¬ (o + m < r.length ∧ R r (b + m) = R r (o + m))) : m = lcp r b o := by
  obtain ⟨h1, h2, h3⟩ := h
  by_cases hc : o + m < r.length
  · have : R r (b + m) ≠ R r (o + m) := fun z => hm ⟨hc, z⟩
    rw [rng_cons (by omega), find_cons, if_pos (by simpa using this)] at h3
    exact h3
  · rw [rng_nil (by omega)] at h3
    simp only [List.find?_nil, Option.getD_none] at h3
    omega
theorem longest_ok {r : List Tx} (hl : r.length ≤ 14) : d_longest_twice (r, ()) = some (lng r) := by
  refine run_eq ?_
  unfold b_longest_twice
  simp only [tw_nil, tw_break, tw_cont, tw_seq, tw_if, tw_set, tw_drop, tw_ret, tw_aug, tw_put, tw_augix, tw_par, tw_par3, tw_par4, tw_for, nxt_nx, nxt_bk, nxt_ct, nxt_rt, lpt_nx, lpt_ct, lpt_bk, lpt_rt, ew_pu, ew_op, ew_un, ew_cons, ew_Map, ew_fnB, ew_mut, ew_if, ew_not, ew_and, ew_or, ew_sl, ew_slI, ew_part0, ew_part1, ew_lc, ew_yes, pw_some, pw_C, pw_V, pw_op, pw_un, pw_ch, pw_not, pw_and, pw_or, pw_if, pw_nil, pw_cons, pw_Map, pw_lc, pw_sl, pw_part0, pw_part1, pw_bm, pw_get, pw_yes, o_addI, o_subI, o_negI, o_mulO, o_divO, o_modO, o_powO, o_shlO, o_shrO, o_ltO, o_leO, o_gtO, o_geO, o_ltX, o_gtX, o_leX, o_geX, o_eqO, o_neO, o_isNO, o_isntNO, o_isN0, o_isntN0, o_inO, o_ninO, o_lenO, o_lenS, o_idO, o_sumO, o_allO, o_anyO, o_absO, o_max2O, o_min2O, o_intB, o_catO, o_repO, o_revO, o_rng1, o_rng2, o_rgL1, o_rgL2, o_zip2, o_toO, o_unO, o_sortO, o_sortIO, o_sortTO, o_minX, o_maxX, o_appO, o_extO, o_inD, o_ninD, o_putDO, o_getD1, o_cntO, o_keysO, o_keysU, o_mkDU, o_sortDO, o_eqDO, o_neDO, o_atD, decide_eq_true_eq, bool_t, ite_t, ite_f, St_longest_twice.set_vrow, St_longest_twice.set_vbest, St_longest_twice.set_vbegin, St_longest_twice.set_vother, St_longest_twice.set_vmany]
  refine ⟨inRg_of (by omega), ?_⟩
  refine tw_fold (fun s => s.vrow = r) (fun s => s.vbest) (row r) rfl (fun b hb s hs => ?_) fun s hs he => ?_
  · have hb := mem_rng.mp hb
    simp only [tw_nil, tw_break, tw_cont, tw_seq, tw_if, tw_set, tw_drop, tw_ret, tw_aug, tw_put, tw_augix, tw_par, tw_par3, tw_par4, tw_for, nxt_nx, nxt_bk, nxt_ct, nxt_rt, lpt_nx, lpt_ct, lpt_bk, lpt_rt, ew_pu, ew_op, ew_un, ew_cons, ew_Map, ew_fnB, ew_mut, ew_if, ew_not, ew_and, ew_or, ew_sl, ew_slI, ew_part0, ew_part1, ew_lc, ew_yes, pw_some, pw_C, pw_V, pw_op, pw_un, pw_ch, pw_not, pw_and, pw_or, pw_if, pw_nil, pw_cons, pw_Map, pw_lc, pw_sl, pw_part0, pw_part1, pw_bm, pw_get, pw_yes, o_addI, o_subI, o_negI, o_mulO, o_divO, o_modO, o_powO, o_shlO, o_shrO, o_ltO, o_leO, o_gtO, o_geO, o_ltX, o_gtX, o_leX, o_geX, o_eqO, o_neO, o_isNO, o_isntNO, o_isN0, o_isntN0, o_inO, o_ninO, o_lenO, o_lenS, o_idO, o_sumO, o_allO, o_anyO, o_absO, o_max2O, o_min2O, o_intB, o_catO, o_repO, o_revO, o_rng1, o_rng2, o_rgL1, o_rgL2, o_zip2, o_toO, o_unO, o_sortO, o_sortIO, o_sortTO, o_minX, o_maxX, o_appO, o_extO, o_inD, o_ninD, o_putDO, o_getD1, o_cntO, o_keysO, o_keysU, o_mkDU, o_sortDO, o_eqDO, o_neDO, o_atD, decide_eq_true_eq, bool_t, ite_t, ite_f, St_longest_twice.set_vrow, St_longest_twice.set_vbest, St_longest_twice.set_vbegin, St_longest_twice.set_vother, St_longest_twice.set_vmany]
    rw [hs]
    refine ⟨inRg2 (by omega) (by omega), ?_⟩
    refine tw_fold (fun s => s.vrow = r ∧ s.vbegin = b) (fun s => s.vbest) (step r b) ⟨by first | exact hs | rfl, rfl⟩ (fun o ho s2 hs2 => ?_) fun s2 hs2 he => ?_
    · obtain ⟨g1, g2⟩ := hs2
      have ho := mem_rng.mp ho
      simp only [tw_nil, tw_break, tw_cont, tw_seq, tw_if, tw_set, tw_drop, tw_ret, tw_aug, tw_put, tw_augix, tw_par, tw_par3, tw_par4, tw_for, nxt_nx, nxt_bk, nxt_ct, nxt_rt, lpt_nx, lpt_ct, lpt_bk, lpt_rt, ew_pu, ew_op, ew_un, ew_cons, ew_Map, ew_fnB, ew_mut, ew_if, ew_not, ew_and, ew_or, ew_sl, ew_slI, ew_part0, ew_part1, ew_lc, ew_yes, pw_some, pw_C, pw_V, pw_op, pw_un, pw_ch, pw_not, pw_and, pw_or, pw_if, pw_nil, pw_cons, pw_Map, pw_lc, pw_sl, pw_part0, pw_part1, pw_bm, pw_get, pw_yes, o_addI, o_subI, o_negI, o_mulO, o_divO, o_modO, o_powO, o_shlO, o_shrO, o_ltO, o_leO, o_gtO, o_geO, o_ltX, o_gtX, o_leX, o_geX, o_eqO, o_neO, o_isNO, o_isntNO, o_isN0, o_isntN0, o_inO, o_ninO, o_lenO, o_lenS, o_idO, o_sumO, o_allO, o_anyO, o_absO, o_max2O, o_min2O, o_intB, o_catO, o_repO, o_revO, o_rng1, o_rng2, o_rgL1, o_rgL2, o_zip2, o_toO, o_unO, o_sortO, o_sortIO, o_sortTO, o_minX, o_maxX, o_appO, o_extO, o_inD, o_ninD, o_putDO, o_getD1, o_cntO, o_keysO, o_keysU, o_mkDU, o_sortDO, o_eqDO, o_neDO, o_atD, decide_eq_true_eq, bool_t, ite_t, ite_f, St_longest_twice.set_vrow, St_longest_twice.set_vbest, St_longest_twice.set_vbegin, St_longest_twice.set_vother, St_longest_twice.set_vmany]
      refine tw_while (k := 1000) (fun m s' => s'.vrow = r ∧ s'.vbegin = b ∧ s'.vother = o ∧ s'.vbest = s2.vbest ∧ LW r b o s'.vmany ∧ (r.length : Int) - s'.vmany ≤ m) ⟨g1, g2, rfl, rfl, ⟨Int.le_refl _, by simp only; omega, rfl⟩, by simp only; omega⟩ (by decide) ?_
      rintro m s' ⟨h1, h2, h3, h4, h5, h6⟩
      have h50 := h5.1
      simp only [tw_nil, tw_break, tw_cont, tw_seq, tw_if, tw_set, tw_drop, tw_ret, tw_aug, tw_put, tw_augix, tw_par, tw_par3, tw_par4, tw_for, nxt_nx, nxt_bk, nxt_ct, nxt_rt, lpt_nx, lpt_ct, lpt_bk, lpt_rt, ew_pu, ew_op, ew_un, ew_cons, ew_Map, ew_fnB, ew_mut, ew_if, ew_not, ew_and, ew_or, ew_sl, ew_slI, ew_part0, ew_part1, ew_lc, ew_yes, pw_some, pw_C, pw_V, pw_op, pw_un, pw_ch, pw_not, pw_and, pw_or, pw_if, pw_nil, pw_cons, pw_Map, pw_lc, pw_sl, pw_part0, pw_part1, pw_bm, pw_get, pw_yes, o_addI, o_subI, o_negI, o_mulO, o_divO, o_modO, o_powO, o_shlO, o_shrO, o_ltO, o_leO, o_gtO, o_geO, o_ltX, o_gtX, o_leX, o_geX, o_eqO, o_neO, o_isNO, o_isntNO, o_isN0, o_isntN0, o_inO, o_ninO, o_lenO, o_lenS, o_idO, o_sumO, o_allO, o_anyO, o_absO, o_max2O, o_min2O, o_intB, o_catO, o_repO, o_revO, o_rng1, o_rng2, o_rgL1, o_rgL2, o_zip2, o_toO, o_unO, o_sortO, o_sortIO, o_sortTO, o_minX, o_maxX, o_appO, o_extO, o_inD, o_ninD, o_putDO, o_getD1, o_cntO, o_keysO, o_keysU, o_mkDU, o_sortDO, o_eqDO, o_neDO, o_atD, decide_eq_true_eq, bool_t, ite_t, ite_f, St_longest_twice.set_vrow, St_longest_twice.set_vbest, St_longest_twice.set_vbegin, St_longest_twice.set_vother, St_longest_twice.set_vmany]
      rw [h1, h2, h3, h4]
      by_cases hc : o + s'.vmany < r.length
      · rw [if_pos hc, o_atG [] ⟨by omega, by omega⟩, o_atG [] ⟨by omega, by omega⟩]
        by_cases hq : R r (b + s'.vmany) = R r (o + s'.vmany)
        · rw [if_pos hq]
          exact ⟨m - 1, by omega, rfl, rfl, rfl, rfl, h5.next hc hq, by omega⟩
        · rw [if_neg hq, h5.stop fun z => hq z.2]
          unfold step
          by_cases hm : s2.vbest.2.2 < lcp r b o
          · rw [if_pos hm, if_pos hm]; exact ⟨⟨rfl, rfl⟩, rfl⟩
          · rw [if_neg hm, if_neg hm]; exact ⟨⟨rfl, rfl⟩, rfl⟩
      · rw [if_neg hc, h5.stop fun z => hc z.1]
        unfold step
        by_cases hm : s2.vbest.2.2 < lcp r b o
        · rw [if_pos hm, if_pos hm]; exact ⟨⟨rfl, rfl⟩, rfl⟩
        · rw [if_neg hm, if_neg hm]; exact ⟨⟨rfl, rfl⟩, rfl⟩
    · simp only [tw_nil, tw_break, tw_cont, tw_seq, tw_if, tw_set, tw_drop, tw_ret, tw_aug, tw_put, tw_augix, tw_par, tw_par3, tw_par4, tw_for, nxt_nx, nxt_bk, nxt_ct, nxt_rt, lpt_nx, lpt_ct, lpt_bk, lpt_rt, ew_pu, ew_op, ew_un, ew_cons, ew_Map, ew_fnB, ew_mut, ew_if, ew_not, ew_and, ew_or, ew_sl, ew_slI, ew_part0, ew_part1, ew_lc, ew_yes, pw_some, pw_C, pw_V, pw_op, pw_un, pw_ch, pw_not, pw_and, pw_or, pw_if, pw_nil, pw_cons, pw_Map, pw_lc, pw_sl, pw_part0, pw_part1, pw_bm, pw_get, pw_yes, o_addI, o_subI, o_negI, o_mulO, o_divO, o_modO, o_powO, o_shlO, o_shrO, o_ltO, o_leO, o_gtO, o_geO, o_ltX, o_gtX, o_leX, o_geX, o_eqO, o_neO, o_isNO, o_isntNO, o_isN0, o_isntN0, o_inO, o_ninO, o_lenO, o_lenS, o_idO, o_sumO, o_allO, o_anyO, o_absO, o_max2O, o_min2O, o_intB, o_catO, o_repO, o_revO, o_rng1, o_rng2, o_rgL1, o_rgL2, o_zip2, o_toO, o_unO, o_sortO, o_sortIO, o_sortTO, o_minX, o_maxX, o_appO, o_extO, o_inD, o_ninD, o_putDO, o_getD1, o_cntO, o_keysO, o_keysU, o_mkDU, o_sortDO, o_eqDO, o_neDO, o_atD, decide_eq_true_eq, bool_t, ite_t, ite_f, St_longest_twice.set_vrow, St_longest_twice.set_vbest, St_longest_twice.set_vbegin, St_longest_twice.set_vother, St_longest_twice.set_vmany]
      exact ⟨hs2.1, he⟩
  · simp only [tw_nil, tw_break, tw_cont, tw_seq, tw_if, tw_set, tw_drop, tw_ret, tw_aug, tw_put, tw_augix, tw_par, tw_par3, tw_par4, tw_for, nxt_nx, nxt_bk, nxt_ct, nxt_rt, lpt_nx, lpt_ct, lpt_bk, lpt_rt, ew_pu, ew_op, ew_un, ew_cons, ew_Map, ew_fnB, ew_mut, ew_if, ew_not, ew_and, ew_or, ew_sl, ew_slI, ew_part0, ew_part1, ew_lc, ew_yes, pw_some, pw_C, pw_V, pw_op, pw_un, pw_ch, pw_not, pw_and, pw_or, pw_if, pw_nil, pw_cons, pw_Map, pw_lc, pw_sl, pw_part0, pw_part1, pw_bm, pw_get, pw_yes, o_addI, o_subI, o_negI, o_mulO, o_divO, o_modO, o_powO, o_shlO, o_shrO, o_ltO, o_leO, o_gtO, o_geO, o_ltX, o_gtX, o_leX, o_geX, o_eqO, o_neO, o_isNO, o_isntNO, o_isN0, o_isntN0, o_inO, o_ninO, o_lenO, o_lenS, o_idO, o_sumO, o_allO, o_anyO, o_absO, o_max2O, o_min2O, o_intB, o_catO, o_repO, o_revO, o_rng1, o_rng2, o_rgL1, o_rgL2, o_zip2, o_toO, o_unO, o_sortO, o_sortIO, o_sortTO, o_minX, o_maxX, o_appO, o_extO, o_inD, o_ninD, o_putDO, o_getD1, o_cntO, o_keysO, o_keysU, o_mkDU, o_sortDO, o_eqDO, o_neDO, o_atD, decide_eq_true_eq, bool_t, ite_t, ite_f, St_longest_twice.set_vrow, St_longest_twice.set_vbest, St_longest_twice.set_vbegin, St_longest_twice.set_vother, St_longest_twice.set_vmany]
    exact he
theorem rep4 {xs : List Tx} (h : xs.length ≤ 3) : ∃ ys, repTO xs 4 = some ys ∧ ys.length ≤ 12 := by
  unfold repTO
  cases xs with
  | nil => exact ⟨[], rfl, by simp⟩
  | cons a as =>
    refine ⟨(List.replicate 4 (a :: as)).flatten, ?_, ?_⟩
    · rw [if_neg (by simp), if_pos (by simp at h ⊢; omega)]; rfl
    · simp only [List.length_flatten, List.map_replicate, List.sum_replicate_nat]
      omega
theorem alk3 (n : Nat) (t : Int × Int × Int) : alk (n + 1) (e3 eI eI eI t) = true := by
  cases n <;> rfl
theorem law_ok (ns : List Int) (hl : ns.length ≤ 63) : d_law (ns, ()) = some true := by
  have sz := szL
  refine run_eq ?_
  unfold b_law
  simp only [tw_nil, tw_break, tw_cont, tw_seq, tw_if, tw_set, tw_drop, tw_ret, tw_aug, tw_put, tw_augix, tw_par, tw_par3, tw_par4, tw_for, nxt_nx, nxt_bk, nxt_ct, nxt_rt, lpt_nx, lpt_ct, lpt_bk, lpt_rt, ew_pu, ew_op, ew_un, ew_cons, ew_Map, ew_fnB, ew_mut, ew_if, ew_not, ew_and, ew_or, ew_sl, ew_slI, ew_part0, ew_part1, ew_lc, ew_yes, pw_some, pw_C, pw_V, pw_op, pw_un, pw_ch, pw_not, pw_and, pw_or, pw_if, pw_nil, pw_cons, pw_Map, pw_lc, pw_sl, pw_part0, pw_part1, pw_bm, pw_get, pw_yes, o_addI, o_subI, o_negI, o_mulO, o_divO, o_modO, o_powO, o_shlO, o_shrO, o_ltO, o_leO, o_gtO, o_geO, o_ltX, o_gtX, o_leX, o_geX, o_eqO, o_neO, o_isNO, o_isntNO, o_isN0, o_isntN0, o_inO, o_ninO, o_lenO, o_lenS, o_idO, o_sumO, o_allO, o_anyO, o_absO, o_max2O, o_min2O, o_intB, o_catO, o_repO, o_revO, o_rng1, o_rng2, o_rgL1, o_rgL2, o_zip2, o_toO, o_unO, o_sortO, o_sortIO, o_sortTO, o_minX, o_maxX, o_appO, o_extO, o_inD, o_ninD, o_putDO, o_getD1, o_cntO, o_keysO, o_keysU, o_mkDU, o_sortDO, o_eqDO, o_neDO, o_atD, decide_eq_true_eq, bool_t, ite_t, ite_f, St_law.set_vscript, St_law.set_vw, St_law.set_vturn, St_law.set_vsome, St_law.set_vrow, St_law.set_vfound, St_law.set_vbegin, St_law.set_vend, St_law.set_vp, St_law.set_vbest, St_law.set_vother, St_law.set_vmany, St_law.set_vk]
  obtain ⟨ds, hds⟩ := drawsO_some (F := m__law_draws) rfl hl 500 (by decide)
  refine pw_of hds ?_
  refine ⟨inRg_of (by omega), ?_⟩
  refine tw_forM (fun _ => True) trivial (fun turn _ s _ => ?_) fun s _ => by simp only [tw_nil, tw_break, tw_cont, tw_seq, tw_if, tw_set, tw_drop, tw_ret, tw_aug, tw_put, tw_augix, tw_par, tw_par3, tw_par4, tw_for, nxt_nx, nxt_bk, nxt_ct, nxt_rt, lpt_nx, lpt_ct, lpt_bk, lpt_rt, ew_pu, ew_op, ew_un, ew_cons, ew_Map, ew_fnB, ew_mut, ew_if, ew_not, ew_and, ew_or, ew_sl, ew_slI, ew_part0, ew_part1, ew_lc, ew_yes, pw_some, pw_C, pw_V, pw_op, pw_un, pw_ch, pw_not, pw_and, pw_or, pw_if, pw_nil, pw_cons, pw_Map, pw_lc, pw_sl, pw_part0, pw_part1, pw_bm, pw_get, pw_yes, o_addI, o_subI, o_negI, o_mulO, o_divO, o_modO, o_powO, o_shlO, o_shrO, o_ltO, o_leO, o_gtO, o_geO, o_ltX, o_gtX, o_leX, o_geX, o_eqO, o_neO, o_isNO, o_isntNO, o_isN0, o_isntN0, o_inO, o_ninO, o_lenO, o_lenS, o_idO, o_sumO, o_allO, o_anyO, o_absO, o_max2O, o_min2O, o_intB, o_catO, o_repO, o_revO, o_rng1, o_rng2, o_rgL1, o_rgL2, o_zip2, o_toO, o_unO, o_sortO, o_sortIO, o_sortTO, o_minX, o_maxX, o_appO, o_extO, o_inD, o_ninD, o_putDO, o_getD1, o_cntO, o_keysO, o_keysU, o_mkDU, o_sortDO, o_eqDO, o_neDO, o_atD, decide_eq_true_eq, bool_t, ite_t, ite_f, St_law.set_vscript, St_law.set_vw, St_law.set_vturn, St_law.set_vsome, St_law.set_vrow, St_law.set_vfound, St_law.set_vbegin, St_law.set_vend, St_law.set_vp, St_law.set_vbest, St_law.set_vother, St_law.set_vmany, St_law.set_vk]
  simp only [tw_nil, tw_break, tw_cont, tw_seq, tw_if, tw_set, tw_drop, tw_ret, tw_aug, tw_put, tw_augix, tw_par, tw_par3, tw_par4, tw_for, nxt_nx, nxt_bk, nxt_ct, nxt_rt, lpt_nx, lpt_ct, lpt_bk, lpt_rt, ew_pu, ew_op, ew_un, ew_cons, ew_Map, ew_fnB, ew_mut, ew_if, ew_not, ew_and, ew_or, ew_sl, ew_slI, ew_part0, ew_part1, ew_lc, ew_yes, pw_some, pw_C, pw_V, pw_op, pw_un, pw_ch, pw_not, pw_and, pw_or, pw_if, pw_nil, pw_cons, pw_Map, pw_lc, pw_sl, pw_part0, pw_part1, pw_bm, pw_get, pw_yes, o_addI, o_subI, o_negI, o_mulO, o_divO, o_modO, o_powO, o_shlO, o_shrO, o_ltO, o_leO, o_gtO, o_geO, o_ltX, o_gtX, o_leX, o_geX, o_eqO, o_neO, o_isNO, o_isntNO, o_isN0, o_isntN0, o_inO, o_ninO, o_lenO, o_lenS, o_idO, o_sumO, o_allO, o_anyO, o_absO, o_max2O, o_min2O, o_intB, o_catO, o_repO, o_revO, o_rng1, o_rng2, o_rgL1, o_rgL2, o_zip2, o_toO, o_unO, o_sortO, o_sortIO, o_sortTO, o_minX, o_maxX, o_appO, o_extO, o_inD, o_ninD, o_putDO, o_getD1, o_cntO, o_keysO, o_keysU, o_mkDU, o_sortDO, o_eqDO, o_neDO, o_atD, decide_eq_true_eq, bool_t, ite_t, ite_f, St_law.set_vscript, St_law.set_vw, St_law.set_vturn, St_law.set_vsome, St_law.set_vrow, St_law.set_vfound, St_law.set_vbegin, St_law.set_vend, St_law.set_vp, St_law.set_vbest, St_law.set_vother, St_law.set_vmany, St_law.set_vk]
  refine ew_pick (by simp) fun sm w hsm => ?_
  have hne : sm ≠ [] := by
    intro e; subst e; simp at hsm
  refine ew_next (by decide) fun y w hy0 hy1 => ⟨inRg_of (by omega), by rw [length_rng]; omega, ?_⟩
  refine ew_lcI0 (fun ys r s => s.vsome = sm ∧ ys.length + r.length = y.toNat) ⟨rfl, by simp [length_rng]⟩ (fun x r ys s hs => ?_) fun r0 s hs => ?_
  · obtain ⟨h1, h2⟩ := hs
    simp only [tw_nil, tw_break, tw_cont, tw_seq, tw_if, tw_set, tw_drop, tw_ret, tw_aug, tw_put, tw_augix, tw_par, tw_par3, tw_par4, tw_for, nxt_nx, nxt_bk, nxt_ct, nxt_rt, lpt_nx, lpt_ct, lpt_bk, lpt_rt, ew_pu, ew_op, ew_un, ew_cons, ew_Map, ew_fnB, ew_mut, ew_if, ew_not, ew_and, ew_or, ew_sl, ew_slI, ew_part0, ew_part1, ew_lc, ew_yes, pw_some, pw_C, pw_V, pw_op, pw_un, pw_ch, pw_not, pw_and, pw_or, pw_if, pw_nil, pw_cons, pw_Map, pw_lc, pw_sl, pw_part0, pw_part1, pw_bm, pw_get, pw_yes, o_addI, o_subI, o_negI, o_mulO, o_divO, o_modO, o_powO, o_shlO, o_shrO, o_ltO, o_leO, o_gtO, o_geO, o_ltX, o_gtX, o_leX, o_geX, o_eqO, o_neO, o_isNO, o_isntNO, o_isN0, o_isntN0, o_inO, o_ninO, o_lenO, o_lenS, o_idO, o_sumO, o_allO, o_anyO, o_absO, o_max2O, o_min2O, o_intB, o_catO, o_repO, o_revO, o_rng1, o_rng2, o_rgL1, o_rgL2, o_zip2, o_toO, o_unO, o_sortO, o_sortIO, o_sortTO, o_minX, o_maxX, o_appO, o_extO, o_inD, o_ninD, o_putDO, o_getD1, o_cntO, o_keysO, o_keysU, o_mkDU, o_sortDO, o_eqDO, o_neDO, o_atD, decide_eq_true_eq, bool_t, ite_t, ite_f, St_law.set_vscript, St_law.set_vw, St_law.set_vturn, St_law.set_vsome, St_law.set_vrow, St_law.set_vfound, St_law.set_vbegin, St_law.set_vend, St_law.set_vp, St_law.set_vbest, St_law.set_vother, St_law.set_vmany, St_law.set_vk]
    rw [h1]
    refine ew_pick hne fun z w hz => ⟨rfl, by simp at h2 ⊢; omega⟩
  · obtain ⟨h1, h2⟩ := hs
    have hr0 : r0.length ≤ 12 := by simp at h2; omega
    refine ew_next (by decide) fun z w hz0 hz1 => ?_
    by_cases hz : z = 0
    rw [if_pos hz]
    obtain ⟨ys, hys, hyl⟩ := rep4 (xs := cutL r0 none (some 3)) (by rw [length_cutT (by decide)]; omega)
    refine pw_of hys ?_
    have hcl : (cutL r0 (some 3) (some 5)).length ≤ 2 := by
      rw [show (3 : Int) = ((3 : Nat) : Int) from rfl, show (5 : Int) = ((5 : Nat) : Int) from rfl, cutL_mid, List.length_take]; omega
    refine ⟨by omega, ?_⟩
    have hX : (cutL (ys ++ cutL r0 (some 3) (some 5)) none (some 14)).length ≤ 14 := by rw [length_cutT (by decide)]; omega
    generalize cutL (ys ++ cutL r0 (some 3) (some 5)) none (some 14) = X at *
    clear hcl hyl hys
    case' neg =>
      rw [if_neg hz]
      have hX : r0.length ≤ 14 := by omega
      generalize hXX : r0 = X at *
      clear hXX
    all_goals
      refine pw_of (least_ok (by omega)) (pw_of (lawp_ok (by omega)) (o_alikeO rfl (alk_int' _ _) ?_))
      rw [if_neg (by decide)]
      refine ⟨inRg_of (by omega), ?_⟩
      have lsl := ls_len hX
      unfold ls at lsl
      refine tw_flat (fun s => s.vrow = X) (fun s => s.vfound) (lp X) rfl (fun b hb s hs hbd => ?_) fun s hs he => ?_
      · have hb := mem_rng.mp hb
        simp only [List.length_nil, Nat.zero_add] at hbd
        simp only [tw_nil, tw_break, tw_cont, tw_seq, tw_if, tw_set, tw_drop, tw_ret, tw_aug, tw_put, tw_augix, tw_par, tw_par3, tw_par4, tw_for, nxt_nx, nxt_bk, nxt_ct, nxt_rt, lpt_nx, lpt_ct, lpt_bk, lpt_rt, ew_pu, ew_op, ew_un, ew_cons, ew_Map, ew_fnB, ew_mut, ew_if, ew_not, ew_and, ew_or, ew_sl, ew_slI, ew_part0, ew_part1, ew_lc, ew_yes, pw_some, pw_C, pw_V, pw_op, pw_un, pw_ch, pw_not, pw_and, pw_or, pw_if, pw_nil, pw_cons, pw_Map, pw_lc, pw_sl, pw_part0, pw_part1, pw_bm, pw_get, pw_yes, o_addI, o_subI, o_negI, o_mulO, o_divO, o_modO, o_powO, o_shlO, o_shrO, o_ltO, o_leO, o_gtO, o_geO, o_ltX, o_gtX, o_leX, o_geX, o_eqO, o_neO, o_isNO, o_isntNO, o_isN0, o_isntN0, o_inO, o_ninO, o_lenO, o_lenS, o_idO, o_sumO, o_allO, o_anyO, o_absO, o_max2O, o_min2O, o_intB, o_catO, o_repO, o_revO, o_rng1, o_rng2, o_rgL1, o_rgL2, o_zip2, o_toO, o_unO, o_sortO, o_sortIO, o_sortTO, o_minX, o_maxX, o_appO, o_extO, o_inD, o_ninD, o_putDO, o_getD1, o_cntO, o_keysO, o_keysU, o_mkDU, o_sortDO, o_eqDO, o_neDO, o_atD, decide_eq_true_eq, bool_t, ite_t, ite_f, St_law.set_vscript, St_law.set_vw, St_law.set_vturn, St_law.set_vsome, St_law.set_vrow, St_law.set_vfound, St_law.set_vbegin, St_law.set_vend, St_law.set_vp, St_law.set_vbest, St_law.set_vother, St_law.set_vmany, St_law.set_vk]
        rw [hs]
        refine ⟨inRg2 (by omega) (by omega), ?_⟩
        refine tw_flat (fun s => s.vrow = X ∧ s.vbegin = b) (fun s => s.vfound) (lb X b) ⟨by first | exact hs | rfl, rfl⟩ (fun e hee s2 hs2 hbd2 => ?_) fun s2 hs2 he => ?_
        · obtain ⟨g1, g2⟩ := hs2
          have hee := mem_rng.mp hee
          simp only [tw_nil, tw_break, tw_cont, tw_seq, tw_if, tw_set, tw_drop, tw_ret, tw_aug, tw_put, tw_augix, tw_par, tw_par3, tw_par4, tw_for, nxt_nx, nxt_bk, nxt_ct, nxt_rt, lpt_nx, lpt_ct, lpt_bk, lpt_rt, ew_pu, ew_op, ew_un, ew_cons, ew_Map, ew_fnB, ew_mut, ew_if, ew_not, ew_and, ew_or, ew_sl, ew_slI, ew_part0, ew_part1, ew_lc, ew_yes, pw_some, pw_C, pw_V, pw_op, pw_un, pw_ch, pw_not, pw_and, pw_or, pw_if, pw_nil, pw_cons, pw_Map, pw_lc, pw_sl, pw_part0, pw_part1, pw_bm, pw_get, pw_yes, o_addI, o_subI, o_negI, o_mulO, o_divO, o_modO, o_powO, o_shlO, o_shrO, o_ltO, o_leO, o_gtO, o_geO, o_ltX, o_gtX, o_leX, o_geX, o_eqO, o_neO, o_isNO, o_isntNO, o_isN0, o_isntN0, o_inO, o_ninO, o_lenO, o_lenS, o_idO, o_sumO, o_allO, o_anyO, o_absO, o_max2O, o_min2O, o_intB, o_catO, o_repO, o_revO, o_rng1, o_rng2, o_rgL1, o_rgL2, o_zip2, o_toO, o_unO, o_sortO, o_sortIO, o_sortTO, o_minX, o_maxX, o_appO, o_extO, o_inD, o_ninD, o_putDO, o_getD1, o_cntO, o_keysO, o_keysU, o_mkDU, o_sortDO, o_eqDO, o_neDO, o_atD, decide_eq_true_eq, bool_t, ite_t, ite_f, St_law.set_vscript, St_law.set_vw, St_law.set_vturn, St_law.set_vsome, St_law.set_vrow, St_law.set_vfound, St_law.set_vbegin, St_law.set_vend, St_law.set_vp, St_law.set_vbest, St_law.set_vother, St_law.set_vmany, St_law.set_vk]
          rw [g1, g2]
          refine pw_of (lawp_ok (r := cut X b e) (by unfold cut; rw [length_cut ⟨hb.1, by omega, by omega⟩]; omega)) ⟨.inl ⟨by decide, by decide⟩, ?_⟩
          have hp := (period_spec (cut X b e)).1
          have bd : s2.vfound.length < sizeLine := by
            simp only at hbd2; have e1 : (lp X b).length = ((rng (b + 2) (X.length + 1)).flatMap (lb X b)).length := rfl; omega
          have no : ¬ (2 * period (cut X b e) ≤ e - b ∧ St X (period (cut X b e)) b ∧ (e = X.length ∨ R X e ≠ R X (e - period (cut X b e)))) → (X = X ∧ b = b) ∧ s2.vfound = s2.vfound ++ lb X b e := fun z => ⟨⟨rfl, rfl⟩, by unfold lb; rw [if_neg z, List.append_nil]⟩
          have ya : (2 * period (cut X b e) ≤ e - b ∧ St X (period (cut X b e)) b ∧ (e = X.length ∨ R X e ≠ R X (e - period (cut X b e)))) → s2.vfound.length < sizeLine ∧ (X = X ∧ b = b) ∧ s2.vfound ++ [(b, period (cut X b e), e)] = s2.vfound ++ lb X b e := fun z => ⟨bd, ⟨rfl, rfl⟩, by unfold lb; rw [if_pos z]⟩
          by_cases c1 : 2 * period (cut X b e) ≤ e - b
          · rw [if_pos c1]
            by_cases c2 : b = 0
            rw [if_pos c2, if_pos trivial]
            have st : St X (period (cut X b e)) b := .inl c2
            case' neg =>
              rw [if_neg c2, o_atG [] ⟨by omega, by omega⟩, o_atG [] ⟨by omega, by omega⟩]
              by_cases st : St X (period (cut X b e)) b
              case neg =>
                rw [if_neg fun z => st (.inr z)]
                exact no fun z => st z.2.1
              rw [if_pos (st.resolve_left c2)]
            all_goals
              by_cases c3 : e = X.length
              · rw [if_pos c3, if_pos trivial]
                exact ya ⟨c1, st, .inl c3⟩
              · rw [if_neg c3, o_atG [] ⟨by omega, by omega⟩, o_atG [] ⟨by omega, by omega⟩]
                by_cases c4 : R X e ≠ R X (e - period (cut X b e))
                · rw [if_pos c4]; exact ya ⟨c1, st, .inr c4⟩
                · rw [if_neg c4]; exact no fun z => z.2.2.elim c3 c4
          · rw [if_neg c1]
            exact no fun z => c1 z.1
        · simp only [tw_nil, tw_break, tw_cont, tw_seq, tw_if, tw_set, tw_drop, tw_ret, tw_aug, tw_put, tw_augix, tw_par, tw_par3, tw_par4, tw_for, nxt_nx, nxt_bk, nxt_ct, nxt_rt, lpt_nx, lpt_ct, lpt_bk, lpt_rt, ew_pu, ew_op, ew_un, ew_cons, ew_Map, ew_fnB, ew_mut, ew_if, ew_not, ew_and, ew_or, ew_sl, ew_slI, ew_part0, ew_part1, ew_lc, ew_yes, pw_some, pw_C, pw_V, pw_op, pw_un, pw_ch, pw_not, pw_and, pw_or, pw_if, pw_nil, pw_cons, pw_Map, pw_lc, pw_sl, pw_part0, pw_part1, pw_bm, pw_get, pw_yes, o_addI, o_subI, o_negI, o_mulO, o_divO, o_modO, o_powO, o_shlO, o_shrO, o_ltO, o_leO, o_gtO, o_geO, o_ltX, o_gtX, o_leX, o_geX, o_eqO, o_neO, o_isNO, o_isntNO, o_isN0, o_isntN0, o_inO, o_ninO, o_lenO, o_lenS, o_idO, o_sumO, o_allO, o_anyO, o_absO, o_max2O, o_min2O, o_intB, o_catO, o_repO, o_revO, o_rng1, o_rng2, o_rgL1, o_rgL2, o_zip2, o_toO, o_unO, o_sortO, o_sortIO, o_sortTO, o_minX, o_maxX, o_appO, o_extO, o_inD, o_ninD, o_putDO, o_getD1, o_cntO, o_keysO, o_keysU, o_mkDU, o_sortDO, o_eqDO, o_neDO, o_atD, decide_eq_true_eq, bool_t, ite_t, ite_f, St_law.set_vscript, St_law.set_vw, St_law.set_vturn, St_law.set_vsome, St_law.set_vrow, St_law.set_vfound, St_law.set_vbegin, St_law.set_vend, St_law.set_vp, St_law.set_vbest, St_law.set_vother, St_law.set_vmany, St_law.set_vk]
          exact ⟨hs2.1, he⟩
      · simp only [tw_nil, tw_break, tw_cont, tw_seq, tw_if, tw_set, tw_drop, tw_ret, tw_aug, tw_put, tw_augix, tw_par, tw_par3, tw_par4, tw_for, nxt_nx, nxt_bk, nxt_ct, nxt_rt, lpt_nx, lpt_ct, lpt_bk, lpt_rt, ew_pu, ew_op, ew_un, ew_cons, ew_Map, ew_fnB, ew_mut, ew_if, ew_not, ew_and, ew_or, ew_sl, ew_slI, ew_part0, ew_part1, ew_lc, ew_yes, pw_some, pw_C, pw_V, pw_op, pw_un, pw_ch, pw_not, pw_and, pw_or, pw_if, pw_nil, pw_cons, pw_Map, pw_lc, pw_sl, pw_part0, pw_part1, pw_bm, pw_get, pw_yes, o_addI, o_subI, o_negI, o_mulO, o_divO, o_modO, o_powO, o_shlO, o_shrO, o_ltO, o_leO, o_gtO, o_geO, o_ltX, o_gtX, o_leX, o_geX, o_eqO, o_neO, o_isNO, o_isntNO, o_isN0, o_isntN0, o_inO, o_ninO, o_lenO, o_lenS, o_idO, o_sumO, o_allO, o_anyO, o_absO, o_max2O, o_min2O, o_intB, o_catO, o_repO, o_revO, o_rng1, o_rng2, o_rgL1, o_rgL2, o_zip2, o_toO, o_unO, o_sortO, o_sortIO, o_sortTO, o_minX, o_maxX, o_appO, o_extO, o_inD, o_ninD, o_putDO, o_getD1, o_cntO, o_keysO, o_keysU, o_mkDU, o_sortDO, o_eqDO, o_neDO, o_atD, decide_eq_true_eq, bool_t, ite_t, ite_f, St_law.set_vscript, St_law.set_vw, St_law.set_vturn, St_law.set_vsome, St_law.set_vrow, St_law.set_vfound, St_law.set_vbegin, St_law.set_vend, St_law.set_vp, St_law.set_vbest, St_law.set_vother, St_law.set_vmany, St_law.set_vk]
        rw [hs, he]
        simp only [List.nil_append]
        refine pw_of (repeats_ok hX) ⟨by omega, o_alikeO (srt_rs X).symm (alk_tup' (fun t _ => alk3 _ t) (by rw [length_srt]; have := rs_len hX; omega)) ?_⟩
        rw [if_neg (by decide)]
        refine ⟨inRg_of (by omega), ?_⟩
        refine tw_fold (fun s => s.vrow = X) (fun s => s.vbest) (row X) rfl (fun b hb s hs => ?_) fun s hs he => ?_
        · have hb := mem_rng.mp hb
          simp only [tw_nil, tw_break, tw_cont, tw_seq, tw_if, tw_set, tw_drop, tw_ret, tw_aug, tw_put, tw_augix, tw_par, tw_par3, tw_par4, tw_for, nxt_nx, nxt_bk, nxt_ct, nxt_rt, lpt_nx, lpt_ct, lpt_bk, lpt_rt, ew_pu, ew_op, ew_un, ew_cons, ew_Map, ew_fnB, ew_mut, ew_if, ew_not, ew_and, ew_or, ew_sl, ew_slI, ew_part0, ew_part1, ew_lc, ew_yes, pw_some, pw_C, pw_V, pw_op, pw_un, pw_ch, pw_not, pw_and, pw_or, pw_if, pw_nil, pw_cons, pw_Map, pw_lc, pw_sl, pw_part0, pw_part1, pw_bm, pw_get, pw_yes, o_addI, o_subI, o_negI, o_mulO, o_divO, o_modO, o_powO, o_shlO, o_shrO, o_ltO, o_leO, o_gtO, o_geO, o_ltX, o_gtX, o_leX, o_geX, o_eqO, o_neO, o_isNO, o_isntNO, o_isN0, o_isntN0, o_inO, o_ninO, o_lenO, o_lenS, o_idO, o_sumO, o_allO, o_anyO, o_absO, o_max2O, o_min2O, o_intB, o_catO, o_repO, o_revO, o_rng1, o_rng2, o_rgL1, o_rgL2, o_zip2, o_toO, o_unO, o_sortO, o_sortIO, o_sortTO, o_minX, o_maxX, o_appO, o_extO, o_inD, o_ninD, o_putDO, o_getD1, o_cntO, o_keysO, o_keysU, o_mkDU, o_sortDO, o_eqDO, o_neDO, o_atD, decide_eq_true_eq, bool_t, ite_t, ite_f, St_law.set_vscript, St_law.set_vw, St_law.set_vturn, St_law.set_vsome, St_law.set_vrow, St_law.set_vfound, St_law.set_vbegin, St_law.set_vend, St_law.set_vp, St_law.set_vbest, St_law.set_vother, St_law.set_vmany, St_law.set_vk]
          rw [hs]
          refine ⟨inRg2 (by omega) (by omega), ?_⟩
          refine tw_fold (fun s => s.vrow = X ∧ s.vbegin = b) (fun s => s.vbest) (step X b) ⟨by first | exact hs | rfl, rfl⟩ (fun o ho s2 hs2 => ?_) fun s2 hs2 he => ?_
          · obtain ⟨g1, g2⟩ := hs2
            have ho := mem_rng.mp ho
            simp only [tw_nil, tw_break, tw_cont, tw_seq, tw_if, tw_set, tw_drop, tw_ret, tw_aug, tw_put, tw_augix, tw_par, tw_par3, tw_par4, tw_for, nxt_nx, nxt_bk, nxt_ct, nxt_rt, lpt_nx, lpt_ct, lpt_bk, lpt_rt, ew_pu, ew_op, ew_un, ew_cons, ew_Map, ew_fnB, ew_mut, ew_if, ew_not, ew_and, ew_or, ew_sl, ew_slI, ew_part0, ew_part1, ew_lc, ew_yes, pw_some, pw_C, pw_V, pw_op, pw_un, pw_ch, pw_not, pw_and, pw_or, pw_if, pw_nil, pw_cons, pw_Map, pw_lc, pw_sl, pw_part0, pw_part1, pw_bm, pw_get, pw_yes, o_addI, o_subI, o_negI, o_mulO, o_divO, o_modO, o_powO, o_shlO, o_shrO, o_ltO, o_leO, o_gtO, o_geO, o_ltX, o_gtX, o_leX, o_geX, o_eqO, o_neO, o_isNO, o_isntNO, o_isN0, o_isntN0, o_inO, o_ninO, o_lenO, o_lenS, o_idO, o_sumO, o_allO, o_anyO, o_absO, o_max2O, o_min2O, o_intB, o_catO, o_repO, o_revO, o_rng1, o_rng2, o_rgL1, o_rgL2, o_zip2, o_toO, o_unO, o_sortO, o_sortIO, o_sortTO, o_minX, o_maxX, o_appO, o_extO, o_inD, o_ninD, o_putDO, o_getD1, o_cntO, o_keysO, o_keysU, o_mkDU, o_sortDO, o_eqDO, o_neDO, o_atD, decide_eq_true_eq, bool_t, ite_t, ite_f, St_law.set_vscript, St_law.set_vw, St_law.set_vturn, St_law.set_vsome, St_law.set_vrow, St_law.set_vfound, St_law.set_vbegin, St_law.set_vend, St_law.set_vp, St_law.set_vbest, St_law.set_vother, St_law.set_vmany, St_law.set_vk]
            refine tw_while (k := 1000) (fun m s' => s'.vrow = X ∧ s'.vbegin = b ∧ s'.vother = o ∧ s'.vbest = s2.vbest ∧ LW X b o s'.vmany ∧ (X.length : Int) - s'.vmany ≤ m) ⟨g1, g2, rfl, rfl, ⟨Int.le_refl _, by simp only; omega, rfl⟩, by simp only; omega⟩ (by decide) ?_
            rintro m s' ⟨h1, h2, h3, h4, h5, h6⟩
            have h50 := h5.1
            simp only [tw_nil, tw_break, tw_cont, tw_seq, tw_if, tw_set, tw_drop, tw_ret, tw_aug, tw_put, tw_augix, tw_par, tw_par3, tw_par4, tw_for, nxt_nx, nxt_bk, nxt_ct, nxt_rt, lpt_nx, lpt_ct, lpt_bk, lpt_rt, ew_pu, ew_op, ew_un, ew_cons, ew_Map, ew_fnB, ew_mut, ew_if, ew_not, ew_and, ew_or, ew_sl, ew_slI, ew_part0, ew_part1, ew_lc, ew_yes, pw_some, pw_C, pw_V, pw_op, pw_un, pw_ch, pw_not, pw_and, pw_or, pw_if, pw_nil, pw_cons, pw_Map, pw_lc, pw_sl, pw_part0, pw_part1, pw_bm, pw_get, pw_yes, o_addI, o_subI, o_negI, o_mulO, o_divO, o_modO, o_powO, o_shlO, o_shrO, o_ltO, o_leO, o_gtO, o_geO, o_ltX, o_gtX, o_leX, o_geX, o_eqO, o_neO, o_isNO, o_isntNO, o_isN0, o_isntN0, o_inO, o_ninO, o_lenO, o_lenS, o_idO, o_sumO, o_allO, o_anyO, o_absO, o_max2O, o_min2O, o_intB, o_catO, o_repO, o_revO, o_rng1, o_rng2, o_rgL1, o_rgL2, o_zip2, o_toO, o_unO, o_sortO, o_sortIO, o_sortTO, o_minX, o_maxX, o_appO, o_extO, o_inD, o_ninD, o_putDO, o_getD1, o_cntO, o_keysO, o_keysU, o_mkDU, o_sortDO, o_eqDO, o_neDO, o_atD, decide_eq_true_eq, bool_t, ite_t, ite_f, St_law.set_vscript, St_law.set_vw, St_law.set_vturn, St_law.set_vsome, St_law.set_vrow, St_law.set_vfound, St_law.set_vbegin, St_law.set_vend, St_law.set_vp, St_law.set_vbest, St_law.set_vother, St_law.set_vmany, St_law.set_vk]
            rw [h1, h2, h3, h4]
            by_cases hc : o + s'.vmany < X.length
            · rw [if_pos hc, o_atG [] ⟨by omega, by omega⟩, o_atG [] ⟨by omega, by omega⟩]
              by_cases hq : R X (b + s'.vmany) = R X (o + s'.vmany)
              · rw [if_pos hq]
                exact ⟨m - 1, by omega, rfl, rfl, rfl, rfl, h5.next hc hq, by omega⟩
              · rw [if_neg hq, h5.stop fun z => hq z.2]
                unfold step
                by_cases hm : s2.vbest.2.2 < lcp X b o
                · rw [if_pos hm, if_pos hm]; exact ⟨⟨rfl, rfl⟩, rfl⟩
                · rw [if_neg hm, if_neg hm]; exact ⟨⟨rfl, rfl⟩, rfl⟩
            · rw [if_neg hc, h5.stop fun z => hc z.1]
              unfold step
              by_cases hm : s2.vbest.2.2 < lcp X b o
              · rw [if_pos hm, if_pos hm]; exact ⟨⟨rfl, rfl⟩, rfl⟩
              · rw [if_neg hm, if_neg hm]; exact ⟨⟨rfl, rfl⟩, rfl⟩
          · simp only [tw_nil, tw_break, tw_cont, tw_seq, tw_if, tw_set, tw_drop, tw_ret, tw_aug, tw_put, tw_augix, tw_par, tw_par3, tw_par4, tw_for, nxt_nx, nxt_bk, nxt_ct, nxt_rt, lpt_nx, lpt_ct, lpt_bk, lpt_rt, ew_pu, ew_op, ew_un, ew_cons, ew_Map, ew_fnB, ew_mut, ew_if, ew_not, ew_and, ew_or, ew_sl, ew_slI, ew_part0, ew_part1, ew_lc, ew_yes, pw_some, pw_C, pw_V, pw_op, pw_un, pw_ch, pw_not, pw_and, pw_or, pw_if, pw_nil, pw_cons, pw_Map, pw_lc, pw_sl, pw_part0, pw_part1, pw_bm, pw_get, pw_yes, o_addI, o_subI, o_negI, o_mulO, o_divO, o_modO, o_powO, o_shlO, o_shrO, o_ltO, o_leO, o_gtO, o_geO, o_ltX, o_gtX, o_leX, o_geX, o_eqO, o_neO, o_isNO, o_isntNO, o_isN0, o_isntN0, o_inO, o_ninO, o_lenO, o_lenS, o_idO, o_sumO, o_allO, o_anyO, o_absO, o_max2O, o_min2O, o_intB, o_catO, o_repO, o_revO, o_rng1, o_rng2, o_rgL1, o_rgL2, o_zip2, o_toO, o_unO, o_sortO, o_sortIO, o_sortTO, o_minX, o_maxX, o_appO, o_extO, o_inD, o_ninD, o_putDO, o_getD1, o_cntO, o_keysO, o_keysU, o_mkDU, o_sortDO, o_eqDO, o_neDO, o_atD, decide_eq_true_eq, bool_t, ite_t, ite_f, St_law.set_vscript, St_law.set_vw, St_law.set_vturn, St_law.set_vsome, St_law.set_vrow, St_law.set_vfound, St_law.set_vbegin, St_law.set_vend, St_law.set_vp, St_law.set_vbest, St_law.set_vother, St_law.set_vmany, St_law.set_vk]
            exact ⟨hs2.1, he⟩
        · simp only [tw_nil, tw_break, tw_cont, tw_seq, tw_if, tw_set, tw_drop, tw_ret, tw_aug, tw_put, tw_augix, tw_par, tw_par3, tw_par4, tw_for, nxt_nx, nxt_bk, nxt_ct, nxt_rt, lpt_nx, lpt_ct, lpt_bk, lpt_rt, ew_pu, ew_op, ew_un, ew_cons, ew_Map, ew_fnB, ew_mut, ew_if, ew_not, ew_and, ew_or, ew_sl, ew_slI, ew_part0, ew_part1, ew_lc, ew_yes, pw_some, pw_C, pw_V, pw_op, pw_un, pw_ch, pw_not, pw_and, pw_or, pw_if, pw_nil, pw_cons, pw_Map, pw_lc, pw_sl, pw_part0, pw_part1, pw_bm, pw_get, pw_yes, o_addI, o_subI, o_negI, o_mulO, o_divO, o_modO, o_powO, o_shlO, o_shrO, o_ltO, o_leO, o_gtO, o_geO, o_ltX, o_gtX, o_leX, o_geX, o_eqO, o_neO, o_isNO, o_isntNO, o_isN0, o_isntN0, o_inO, o_ninO, o_lenO, o_lenS, o_idO, o_sumO, o_allO, o_anyO, o_absO, o_max2O, o_min2O, o_intB, o_catO, o_repO, o_revO, o_rng1, o_rng2, o_rgL1, o_rgL2, o_zip2, o_toO, o_unO, o_sortO, o_sortIO, o_sortTO, o_minX, o_maxX, o_appO, o_extO, o_inD, o_ninD, o_putDO, o_getD1, o_cntO, o_keysO, o_keysU, o_mkDU, o_sortDO, o_eqDO, o_neDO, o_atD, decide_eq_true_eq, bool_t, ite_t, ite_f, St_law.set_vscript, St_law.set_vw, St_law.set_vturn, St_law.set_vsome, St_law.set_vrow, St_law.set_vfound, St_law.set_vbegin, St_law.set_vend, St_law.set_vp, St_law.set_vbest, St_law.set_vother, St_law.set_vmany, St_law.set_vk]
          rw [hs, he]
          refine pw_of (longest_ok hX) (o_alikeO rfl (alk3 _ _) ?_)
          rw [if_neg (by decide)]
          trivial
theorem law_true (ns : List Int) (hl : ns.length ≤ 63) : ∃ cs', m_law [.fz (.list (ns.map PyData.int))] = some (.fz (.bool true), cs') := by
  obtain ⟨o, c, e, ok⟩ := fn_law _ _ (law_ok ns hl)
  cases ok
  exact ⟨c, e⟩
end K30
namespace K30
open PySem PySem.Spec L2 TL
/-! ### what the top has written -/
def all_mk {K : PySem.W.Frag} {h : Heap} {mg : Str → Option Value} (X : K.In h) (G : h.Ns mainGlobals mg)
    {f0 f1 f2 f3 f4 f5 f6 f7 f8 f9 : Addr} {od0 an0 od1 an1 od2 an2 od3 an3 od4 an4 od5 an5 od6 an6 od7 an7 od8 an8 od9 an9 : Option Addr} {sl0 sl1 sl2 sl3 sl4 sl5 sl6 sl7 sl8 sl9 : Array (Option Value)} {oc0 kV0 dc0 pm0 cd0 ct0 oc1 kV1 dc1 pm1 cd1 ct1 oc2 kV2 dc2 pm2 cd2 ct2 oc3 kV3 dc3 pm3 cd3 ct3 oc4 kV4 dc4 pm4 cd4 ct4 oc5 kV5 dc5 pm5 cd5 ct5 oc6 kV6 dc6 pm6 cd6 ct6 oc7 kV7 dc7 pm7 cd7 ct7 oc8 kV8 dc8 pm8 cd8 ct8 oc9 kV9 dc9 pm9 cd9 ct9 : Value}
    (a0 : PySem.W.nsIn K mainGlobals "least_period" = some (some (.ref f0))) (l0 : K.lookup f0 = some ⟨oc0, od0, .func (PySem.W.fnOf "least_period" "least_period" (defArgs s_least_period) (defBody s_least_period) (defScope s_least_period) .none kV0 dc0 pm0 an0 cd0 ct0), sl0⟩) (c0 : PySem.W.codeIn K cd0 "least_period" = true) (k0 : PySem.W.keepIn K (.ref f0) = true)
    (a1 : PySem.W.nsIn K mainGlobals "stretch_from" = some (some (.ref f1))) (l1 : K.lookup f1 = some ⟨oc1, od1, .func (PySem.W.fnOf "stretch_from" "stretch_from" (defArgs s_stretch_from) (defBody s_stretch_from) (defScope s_stretch_from) .none kV1 dc1 pm1 an1 cd1 ct1), sl1⟩) (c1 : PySem.W.codeIn K cd1 "stretch_from" = true) (k1 : PySem.W.keepIn K (.ref f1) = true)
    (a2 : PySem.W.nsIn K mainGlobals "repeats" = some (some (.ref f2))) (l2 : K.lookup f2 = some ⟨oc2, od2, .func (PySem.W.fnOf "repeats" "repeats" (defArgs s_repeats) (defBody s_repeats) (defScope s_repeats) .none kV2 dc2 pm2 an2 cd2 ct2), sl2⟩) (c2 : PySem.W.codeIn K cd2 "repeats" = true) (k2 : PySem.W.keepIn K (.ref f2) = true)
    (a3 : PySem.W.nsIn K mainGlobals "longest_twice" = some (some (.ref f3))) (l3 : K.lookup f3 = some ⟨oc3, od3, .func (PySem.W.fnOf "longest_twice" "longest_twice" (defArgs s_longest_twice) (defBody s_longest_twice) (defScope s_longest_twice) .none kV3 dc3 pm3 an3 cd3 ct3), sl3⟩) (c3 : PySem.W.codeIn K cd3 "longest_twice" = true) (k3 : PySem.W.keepIn K (.ref f3) = true)
    (a4 : PySem.W.nsIn K mainGlobals "_law_draws" = some (some (.ref f4))) (l4 : K.lookup f4 = some ⟨oc4, od4, .func (PySem.W.fnOf "_law_draws" "_law_draws" (defArgs s__law_draws) (defBody s__law_draws) (defScope s__law_draws) .none kV4 dc4 pm4 an4 cd4 ct4), sl4⟩) (c4 : PySem.W.codeIn K cd4 "_law_draws" = true) (k4 : PySem.W.keepIn K (.ref f4) = true)
    (a5 : PySem.W.nsIn K mainGlobals "_law_next" = some (some (.ref f5))) (l5 : K.lookup f5 = some ⟨oc5, od5, .func (PySem.W.fnOf "_law_next" "_law_next" (defArgs s__law_next) (defBody s__law_next) (defScope s__law_next) .none kV5 dc5 pm5 an5 cd5 ct5), sl5⟩) (c5 : PySem.W.codeIn K cd5 "_law_next" = true) (k5 : PySem.W.keepIn K (.ref f5) = true)
    (a6 : PySem.W.nsIn K mainGlobals "_law_pick" = some (some (.ref f6))) (l6 : K.lookup f6 = some ⟨oc6, od6, .func (PySem.W.fnOf "_law_pick" "_law_pick" (defArgs s__law_pick) (defBody s__law_pick) (defScope s__law_pick) .none kV6 dc6 pm6 an6 cd6 ct6), sl6⟩) (c6 : PySem.W.codeIn K cd6 "_law_pick" = true) (k6 : PySem.W.keepIn K (.ref f6) = true)
    (a7 : PySem.W.nsIn K mainGlobals "_law_alike" = some (some (.ref f7))) (l7 : K.lookup f7 = some ⟨oc7, od7, .func (PySem.W.fnOf "_law_alike" "_law_alike" (defArgs s__law_alike) (defBody s__law_alike) (defScope s__law_alike) .none kV7 dc7 pm7 an7 cd7 ct7), sl7⟩) (c7 : PySem.W.codeIn K cd7 "_law_alike" = true) (k7 : PySem.W.keepIn K (.ref f7) = true)
    (a8 : PySem.W.nsIn K mainGlobals "_law_period" = some (some (.ref f8))) (l8 : K.lookup f8 = some ⟨oc8, od8, .func (PySem.W.fnOf "_law_period" "_law_period" (defArgs s__law_period) (defBody s__law_period) (defScope s__law_period) .none kV8 dc8 pm8 an8 cd8 ct8), sl8⟩) (c8 : PySem.W.codeIn K cd8 "_law_period" = true) (k8 : PySem.W.keepIn K (.ref f8) = true)
    (a9 : PySem.W.nsIn K mainGlobals "law" = some (some (.ref f9))) (l9 : K.lookup f9 = some ⟨oc9, od9, .func (PySem.W.fnOf "law" "law" (defArgs s_law) (defBody s_law) (defScope s_law) .none kV9 dc9 pm9 an9 cd9 ct9), sl9⟩) (c9 : PySem.W.codeIn K cd9 "law" = true) (k9 : PySem.W.keepIn K (.ref f9) = true)
    (z0 : PySem.W.nsIn K mainGlobals "abs" = some none)
    (z1 : PySem.W.nsIn K mainGlobals "all" = some none)
    (z2 : PySem.W.nsIn K mainGlobals "bool" = some none)
    (z3 : PySem.W.nsIn K mainGlobals "int" = some none)
    (z4 : PySem.W.nsIn K mainGlobals "isinstance" = some none)
    (z5 : PySem.W.nsIn K mainGlobals "len" = some none)
    (z6 : PySem.W.nsIn K mainGlobals "max" = some none)
    (z7 : PySem.W.nsIn K mainGlobals "range" = some none)
    (z8 : PySem.W.nsIn K mainGlobals "sorted" = some none)
    (z9 : PySem.W.nsIn K mainGlobals "str" = some none)
    (z10 : PySem.W.nsIn K mainGlobals "tuple" = some none) :
    Tp K mg where
  a_least_period := f0
  d_least_period := _
  F_least_period := fun_mk (st := s_least_period) l0 c0 k0
  b_least_period := (fun_mk (st := s_least_period) l0 c0 k0).binds (ps := ["row"]) fun _ _ _ _ _ _ us hl => match us, hl with | [_], _ => rfl
  g_least_period := PySem.W.mg_of X G a0
  a_stretch_from := f1
  d_stretch_from := _
  F_stretch_from := fun_mk (st := s_stretch_from) l1 c1 k1
  b_stretch_from := (fun_mk (st := s_stretch_from) l1 c1 k1).binds (ps := ["row", "begin", "period"]) fun _ _ _ _ _ _ us hl => match us, hl with | [_, _, _], _ => rfl
  g_stretch_from := PySem.W.mg_of X G a1
  a_repeats := f2
  d_repeats := _
  F_repeats := fun_mk (st := s_repeats) l2 c2 k2
  b_repeats := (fun_mk (st := s_repeats) l2 c2 k2).binds (ps := ["row"]) fun _ _ _ _ _ _ us hl => match us, hl with | [_], _ => rfl
  g_repeats := PySem.W.mg_of X G a2
  a_longest_twice := f3
  d_longest_twice := _
  F_longest_twice := fun_mk (st := s_longest_twice) l3 c3 k3
  b_longest_twice := (fun_mk (st := s_longest_twice) l3 c3 k3).binds (ps := ["row"]) fun _ _ _ _ _ _ us hl => match us, hl with | [_], _ => rfl
  g_longest_twice := PySem.W.mg_of X G a3
  a__law_draws := f4
  d__law_draws := _
  F__law_draws := fun_mk (st := s__law_draws) l4 c4 k4
  b__law_draws := (fun_mk (st := s__law_draws) l4 c4 k4).binds (ps := ["script", "many"]) fun _ _ _ _ _ _ us hl => match us, hl with | [_, _], _ => rfl
  g__law_draws := PySem.W.mg_of X G a4
  a__law_next := f5
  d__law_next := _
  F__law_next := fun_mk (st := s__law_next) l5 c5 k5
  b__law_next := (fun_mk (st := s__law_next) l5 c5 k5).binds (ps := ["w", "many"]) fun _ _ _ _ _ _ us hl => match us, hl with | [_, _], _ => rfl
  g__law_next := PySem.W.mg_of X G a5
  a__law_pick := f6
  d__law_pick := _
  F__law_pick := fun_mk (st := s__law_pick) l6 c6 k6
  b__law_pick := (fun_mk (st := s__law_pick) l6 c6 k6).binds (ps := ["w", "rows"]) fun _ _ _ _ _ _ us hl => match us, hl with | [_, _], _ => rfl
  g__law_pick := PySem.W.mg_of X G a6
  a__law_alike := f7
  d__law_alike := _
  F__law_alike := fun_mk (st := s__law_alike) l7 c7 k7
  b__law_alike := (fun_mk (st := s__law_alike) l7 c7 k7).binds (ps := ["given", "due"]) fun _ _ _ _ _ _ us hl => match us, hl with | [_, _], _ => rfl
  g__law_alike := PySem.W.mg_of X G a7
  a__law_period := f8
  d__law_period := _
  F__law_period := fun_mk (st := s__law_period) l8 c8 k8
  b__law_period := (fun_mk (st := s__law_period) l8 c8 k8).binds (ps := ["row"]) fun _ _ _ _ _ _ us hl => match us, hl with | [_], _ => rfl
  g__law_period := PySem.W.mg_of X G a8
  a_law := f9
  d_law := _
  F_law := fun_mk (st := s_law) l9 c9 k9
  b_law := (fun_mk (st := s_law) l9 c9 k9).binds (ps := ["script"]) fun _ _ _ _ _ _ us hl => match us, hl with | [_], _ => rfl
  g_law := PySem.W.mg_of X G a9
  z_abs := PySem.W.mg_none_of X G z0
  z_all := PySem.W.mg_none_of X G z1
  z_bool := PySem.W.mg_none_of X G z2
  z_int := PySem.W.mg_none_of X G z3
  z_isinstance := PySem.W.mg_none_of X G z4
  z_len := PySem.W.mg_none_of X G z5
  z_max := PySem.W.mg_none_of X G z6
  z_range := PySem.W.mg_none_of X G z7
  z_sorted := PySem.W.mg_none_of X G z8
  z_str := PySem.W.mg_none_of X G z9
  z_tuple := PySem.W.mg_none_of X G z10
theorem law_fin {l : PySem.W.OpenLaw} {w : World} {K : PySem.W.Frag} {h : Heap} {mg : Str → Option Value} {fa : Addr} (X : K.In h) (G : h.Ns mainGlobals mg) (hfa : mg "law" = some (.ref fa))
    {f0 f1 f2 f3 f4 f5 f6 f7 f8 f9 : Addr} {od0 an0 od1 an1 od2 an2 od3 an3 od4 an4 od5 an5 od6 an6 od7 an7 od8 an8 od9 an9 : Option Addr} {sl0 sl1 sl2 sl3 sl4 sl5 sl6 sl7 sl8 sl9 : Array (Option Value)} {oc0 kV0 dc0 pm0 cd0 ct0 oc1 kV1 dc1 pm1 cd1 ct1 oc2 kV2 dc2 pm2 cd2 ct2 oc3 kV3 dc3 pm3 cd3 ct3 oc4 kV4 dc4 pm4 cd4 ct4 oc5 kV5 dc5 pm5 cd5 ct5 oc6 kV6 dc6 pm6 cd6 ct6 oc7 kV7 dc7 pm7 cd7 ct7 oc8 kV8 dc8 pm8 cd8 ct8 oc9 kV9 dc9 pm9 cd9 ct9 : Value}
    (a0 : PySem.W.nsIn K mainGlobals "least_period" = some (some (.ref f0))) (l0 : K.lookup f0 = some ⟨oc0, od0, .func (PySem.W.fnOf "least_period" "least_period" (defArgs s_least_period) (defBody s_least_period) (defScope s_least_period) .none kV0 dc0 pm0 an0 cd0 ct0), sl0⟩) (c0 : PySem.W.codeIn K cd0 "least_period" = true) (k0 : PySem.W.keepIn K (.ref f0) = true)
    (a1 : PySem.W.nsIn K mainGlobals "stretch_from" = some (some (.ref f1))) (l1 : K.lookup f1 = some ⟨oc1, od1, .func (PySem.W.fnOf "stretch_from" "stretch_from" (defArgs s_stretch_from) (defBody s_stretch_from) (defScope s_stretch_from) .none kV1 dc1 pm1 an1 cd1 ct1), sl1⟩) (c1 : PySem.W.codeIn K cd1 "stretch_from" = true) (k1 : PySem.W.keepIn K (.ref f1) = true)
    (a2 : PySem.W.nsIn K mainGlobals "repeats" = some (some (.ref f2))) (l2 : K.lookup f2 = some ⟨oc2, od2, .func (PySem.W.fnOf "repeats" "repeats" (defArgs s_repeats) (defBody s_repeats) (defScope s_repeats) .none kV2 dc2 pm2 an2 cd2 ct2), sl2⟩) (c2 : PySem.W.codeIn K cd2 "repeats" = true) (k2 : PySem.W.keepIn K (.ref f2) = true)
    (a3 : PySem.W.nsIn K mainGlobals "longest_twice" = some (some (.ref f3))) (l3 : K.lookup f3 = some ⟨oc3, od3, .func (PySem.W.fnOf "longest_twice" "longest_twice" (defArgs s_longest_twice) (defBody s_longest_twice) (defScope s_longest_twice) .none kV3 dc3 pm3 an3 cd3 ct3), sl3⟩) (c3 : PySem.W.codeIn K cd3 "longest_twice" = true) (k3 : PySem.W.keepIn K (.ref f3) = true)
    (a4 : PySem.W.nsIn K mainGlobals "_law_draws" = some (some (.ref f4))) (l4 : K.lookup f4 = some ⟨oc4, od4, .func (PySem.W.fnOf "_law_draws" "_law_draws" (defArgs s__law_draws) (defBody s__law_draws) (defScope s__law_draws) .none kV4 dc4 pm4 an4 cd4 ct4), sl4⟩) (c4 : PySem.W.codeIn K cd4 "_law_draws" = true) (k4 : PySem.W.keepIn K (.ref f4) = true)
    (a5 : PySem.W.nsIn K mainGlobals "_law_next" = some (some (.ref f5))) (l5 : K.lookup f5 = some ⟨oc5, od5, .func (PySem.W.fnOf "_law_next" "_law_next" (defArgs s__law_next) (defBody s__law_next) (defScope s__law_next) .none kV5 dc5 pm5 an5 cd5 ct5), sl5⟩) (c5 : PySem.W.codeIn K cd5 "_law_next" = true) (k5 : PySem.W.keepIn K (.ref f5) = true)
    (a6 : PySem.W.nsIn K mainGlobals "_law_pick" = some (some (.ref f6))) (l6 : K.lookup f6 = some ⟨oc6, od6, .func (PySem.W.fnOf "_law_pick" "_law_pick" (defArgs s__law_pick) (defBody s__law_pick) (defScope s__law_pick) .none kV6 dc6 pm6 an6 cd6 ct6), sl6⟩) (c6 : PySem.W.codeIn K cd6 "_law_pick" = true) (k6 : PySem.W.keepIn K (.ref f6) = true)
    (a7 : PySem.W.nsIn K mainGlobals "_law_alike" = some (some (.ref f7))) (l7 : K.lookup f7 = some ⟨oc7, od7, .func (PySem.W.fnOf "_law_alike" "_law_alike" (defArgs s__law_alike) (defBody s__law_alike) (defScope s__law_alike) .none kV7 dc7 pm7 an7 cd7 ct7), sl7⟩) (c7 : PySem.W.codeIn K cd7 "_law_alike" = true) (k7 : PySem.W.keepIn K (.ref f7) = true)
    (a8 : PySem.W.nsIn K mainGlobals "_law_period" = some (some (.ref f8))) (l8 : K.lookup f8 = some ⟨oc8, od8, .func (PySem.W.fnOf "_law_period" "_law_period" (defArgs s__law_period) (defBody s__law_period) (defScope s__law_period) .none kV8 dc8 pm8 an8 cd8 ct8), sl8⟩) (c8 : PySem.W.codeIn K cd8 "_law_period" = true) (k8 : PySem.W.keepIn K (.ref f8) = true)
    (a9 : PySem.W.nsIn K mainGlobals "law" = some (some (.ref f9))) (l9 : K.lookup f9 = some ⟨oc9, od9, .func (PySem.W.fnOf "law" "law" (defArgs s_law) (defBody s_law) (defScope s_law) .none kV9 dc9 pm9 an9 cd9 ct9), sl9⟩) (c9 : PySem.W.codeIn K cd9 "law" = true) (k9 : PySem.W.keepIn K (.ref f9) = true)
    (z0 : PySem.W.nsIn K mainGlobals "abs" = some none)
    (z1 : PySem.W.nsIn K mainGlobals "all" = some none)
    (z2 : PySem.W.nsIn K mainGlobals "bool" = some none)
    (z3 : PySem.W.nsIn K mainGlobals "int" = some none)
    (z4 : PySem.W.nsIn K mainGlobals "isinstance" = some none)
    (z5 : PySem.W.nsIn K mainGlobals "len" = some none)
    (z6 : PySem.W.nsIn K mainGlobals "max" = some none)
    (z7 : PySem.W.nsIn K mainGlobals "range" = some none)
    (z8 : PySem.W.nsIn K mainGlobals "sorted" = some none)
    (z9 : PySem.W.nsIn K mainGlobals "str" = some none)
    (z10 : PySem.W.nsIn K mainGlobals "tuple" = some none) :
    ∃ fd : FuncData, (∀ (s : Shared) (v : Value), BindsTo s fd ⟨[v], []⟩ [("script", v)]) ∧ ∀ base : Heap, K.In base → base.Ns mainGlobals mg → FnOk l.prog w K mg base CX0 7 fa fd ["script"] (spS K 1 m_law) := by
  have e := hfa.symm.trans (PySem.W.mg_of X G a9)
  cases e
  exact ⟨PySem.W.fnOf "law" "law" (defArgs s_law) (defBody s_law) (defScope s_law) .none kV9 dc9 pm9 an9 cd9 ct9, fun s v => .of_eq rfl, fun base _ _ => ok_law (all_mk X G a0 l0 c0 k0 a1 l1 c1 k1 a2 l2 c2 k2 a3 l3 c3 k3 a4 l4 c4 k4 a5 l5 c5 k5 a6 l6 c6 k6 a7 l7 c7 k7 a8 l8 c8 k8 a9 l9 c9 k9 z0 z1 z2 z3 z4 z5 z6 z7 z8 z9 z10)⟩
end K30
open PySem PySem.W PyProof.Rows
set_option maxHeartbeats 0 in
theorem PySem.Challenge.cw_wheretimewent_k30_stretches_that_come_ag_holds : PySem.Challenge.rw_wheretimewent_k30_stretches_that_come_ag.Holds := by
  w_on; o_law; k_head; (case hw => w_witness2)
  k_fill
  refine L2.walk_of (l := PySem.Challenge.rw_wheretimewent_k30_stretches_that_come_ag) (n := 63) (k := 7) (x := "script") (CX := fun _ => L2.CX0) (sp := fun w => TL.spS _ 1 K30.m_law) rfl (by decide) rfl ⟨rfl, by decide, by decide⟩ (fun w h Y => PySem.W.kIn_of Y) ?F (fun w H a ns hl _ hS => TL.law_sp (by kernel_rfl) hS (K30.law_true ns hl)) (fun _ _ _ _ _ h => h)
  case F =>
    intro w mg fa h KX G hmg
    refine' K30.law_fin KX G hmg ?a0 ?l0 ?c0 ?k0 ?a1 ?l1 ?c1 ?k1 ?a2 ?l2 ?c2 ?k2 ?a3 ?l3 ?c3 ?k3 ?a4 ?l4 ?c4 ?k4 ?a5 ?l5 ?c5 ?k5 ?a6 ?l6 ?c6 ?k6 ?a7 ?l7 ?c7 ?k7 ?a8 ?l8 ?c8 ?k8 ?a9 ?l9 ?c9 ?k9 ?z0 ?z1 ?z2 ?z3 ?z4 ?z5 ?z6 ?z7 ?z8 ?z9 ?z10
    (case a0 => k_is); (case l0 => k_is); (case c0 => k_is); (case k0 => k_is); (case a1 => k_is); (case l1 => k_is); (case c1 => k_is); (case k1 => k_is); (case a2 => k_is); (case l2 => k_is); (case c2 => k_is); (case k2 => k_is); (case a3 => k_is); (case l3 => k_is); (case c3 => k_is); (case k3 => k_is); (case a4 => k_is); (case l4 => k_is); (case c4 => k_is); (case k4 => k_is); (case a5 => k_is); (case l5 => k_is); (case c5 => k_is); (case k5 => k_is); (case a6 => k_is); (case l6 => k_is); (case c6 => k_is); (case k6 => k_is); (case a7 => k_is); (case l7 => k_is); (case c7 => k_is); (case k7 => k_is); (case a8 => k_is); (case l8 => k_is); (case c8 => k_is); (case k8 => k_is); (case a9 => k_is); (case l9 => k_is); (case c9 => k_is); (case k9 => k_is); (case z0 => k_is); (case z1 => k_is); (case z2 => k_is); (case z3 => k_is); (case z4 => k_is); (case z5 => k_is); (case z6 => k_is); (case z7 => k_is); (case z8 => k_is); (case z9 => k_is); (case z10 => k_is)
