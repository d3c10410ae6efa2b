import PyProof.Rows.All
import HandS.ForMost
import HandS.Star
import HandS.Deep
import HandS.IsInst
import PyProof.P3In
import PyProof.ReprRoads
import HandS.TupAny
import HandS.TupLe
import HandS.SortInts
import KE.DataCmp
import KE.SortData
import KE.SortUse
import PyProof.EqKinds
import PyProof.NeData
import KE.GoesEnum
import KE.GoesMore
import HandS.Style
import KE.KRevSl
import KE.SortCalls
import HandS.SetFor
import HandS.More
import HandS.Conv
import HandS.Dict
import HandS.Zip
import KE.GoesEnumKw
import KE.KDictDisplayH
import HandS.TupLen
import HandS.TupMul
import HandS.WordsDict
import HandS.TryOnly
import PySem.Challenge.RW_flowlattices_k57_whole_turnings_alike_by
import HandS.Ends
set_option Elab.async false
set_option linter.all false
set_option maxRecDepth 100000
/-! VL0: values as data (PyData) over the hand layer: representation, growth, the state's relation, readings by data. -/
namespace VL
open PySem PySem.Spec PyProof.Rows L2

abbrev D := PyData
abbrev St := L2.St
def kD : Key → D
  | .inl i => .int i
  | .inr x => .str x

/-- a tuple that stands, its record known: it has no names of its own -/
def Tp (B : Hp) (a : Addr) (xs : List V) : Prop := B a = some (.tup xs)
theorem Tp.mono {B B' : Hp} {a : Addr} {xs : List V} (h : Same B B') (t : Tp B a xs) : Tp B' a xs := h _ _ t
theorem Tp.sq {K : PySem.W.Frag} {H : Hp} {a : Addr} {xs : List V} (t : Tp H a xs) : SqT K H a xs := .inl (.inl t)
theorem Tp.put {B : Hp} {p : Addr} {o : Obj} {xs : List V} (hd : o.dict = none) : Tp (upd B p (.tup xs)) p xs := upd_same

mutual
inductive Rp (B : Hp) : V → D → Prop
  | non : Rp B .non .none
  | bl (b : Bool) : Rp B (.bl b) (.bool b)
  | int (i : Int) : Rp B (.int i) (.int i)
  | str (x : Str) : Rp B (.str x) (.str x)
  | lst {a : Addr} {xs : List V} {ds : List D} : B a = some (.lst xs) → RpA B xs ds → Rp B (.ref a) (.list ds)
  | tup {a : Addr} {xs : List V} {ds : List D} : Tp B a xs → RpA B xs ds → Rp B (.ref a) (.tuple ds)
  | dik {a : Addr} {kvs : List (Key × V)} {es : List (D × D)} : B a = some (.dK kvs) → RpE B kvs es → Rp B (.ref a) (.dict es)
  | dit {a : Addr} {kvs : List (List Key × V)} {es : List (D × D)} : B a = some (.dT kvs) → RpT B kvs es → es ≠ [] → Rp B (.ref a) (.dict es)
inductive RpA (B : Hp) : List V → List D → Prop
  | nil : RpA B [] []
  | cons {v : V} {vs : List V} {d : D} {ds : List D} : Rp B v d → RpA B vs ds → RpA B (v :: vs) (d :: ds)
inductive RpE (B : Hp) : List (Key × V) → List (D × D) → Prop
  | nil : RpE B [] []
  | cons {k : Key} {v : V} {d : D} {kvs : List (Key × V)} {es : List (D × D)} : Rp B v d → RpE B kvs es → RpE B ((k, v) :: kvs) ((kD k, d) :: es)
inductive RpT (B : Hp) : List (List Key × V) → List (D × D) → Prop
  | nil : RpT B [] []
  | cons {k : List Key} {v : V} {d : D} {kvs : List (List Key × V)} {es : List (D × D)} : Rp B v d → RpT B kvs es → RpT B ((k, v) :: kvs) ((.tuple (k.map kD), d) :: es)
end

mutual
theorem Rp.mono {B B' : Hp} (h : Same B B') : ∀ {v : V} {d : D}, Rp B v d → Rp B' v d
  | _, _, .non => .non
  | _, _, .bl b => .bl b
  | _, _, .int i => .int i
  | _, _, .str x => .str x
  | _, _, .lst e a => .lst (h _ _ e) (RpA.mono h a)
  | _, _, .tup e a => .tup (e.mono h) (RpA.mono h a)
  | _, _, .dik e a => .dik (h _ _ e) (RpE.mono h a)
  | _, _, .dit e a n => .dit (h _ _ e) (RpT.mono h a) n
theorem RpA.mono {B B' : Hp} (h : Same B B') : ∀ {v : List V} {d : List D}, RpA B v d → RpA B' v d
  | _, _, .nil => .nil
  | _, _, .cons a r => .cons (Rp.mono h a) (RpA.mono h r)
theorem RpE.mono {B B' : Hp} (h : Same B B') : ∀ {v : List (Key × V)} {d : List (D × D)}, RpE B v d → RpE B' v d
  | _, _, .nil => .nil
  | _, _, .cons a r => .cons (Rp.mono h a) (RpE.mono h r)
theorem RpT.mono {B B' : Hp} (h : Same B B') : ∀ {v : List (List Key × V)} {d : List (D × D)}, RpT B v d → RpT B' v d
  | _, _, .nil => .nil
  | _, _, .cons a r => .cons (Rp.mono h a) (RpT.mono h r)
end
theorem RpA.length {B : Hp} : ∀ {vs : List V} {ds : List D}, RpA B vs ds → vs.length = ds.length
  | _, _, .nil => rfl
  | _, _, .cons _ r => by simp [RpA.length r]
theorem RpA.get {B : Hp} : ∀ {vs : List V} {ds : List D} {i : Nat} {d : D}, RpA B vs ds → ds[i]? = some d → ∃ v, vs[i]? = some v ∧ Rp B v d
  | _, _, _, _, .nil, e => by simp at e
  | _, _, 0, _, .cons a r, e => by simp at e; subst e; exact ⟨_, rfl, a⟩
  | _, _, i + 1, d, .cons a r, e => by
    obtain ⟨v, h1, h2⟩ := RpA.get (i := i) r (by simpa using e)
    exact ⟨v, by simpa using h1, h2⟩
theorem RpA.append {B : Hp} : ∀ {vs ws : List V} {ds es : List D}, RpA B vs ds → RpA B ws es → RpA B (vs ++ ws) (ds ++ es)
  | _, _, _, _, .nil, s => s
  | _, _, _, _, .cons a r, s => .cons a (RpA.append r s)
theorem RpA.take {B : Hp} : ∀ {vs : List V} {ds : List D} (n : Nat), RpA B vs ds → RpA B (vs.take n) (ds.take n)
  | _, _, 0, _ => .nil
  | _, _, _ + 1, .nil => .nil
  | _, _, n + 1, .cons a r => .cons a (RpA.take n r)
theorem RpA.drop {B : Hp} : ∀ {vs : List V} {ds : List D} (n : Nat), RpA B vs ds → RpA B (vs.drop n) (ds.drop n)
  | _, _, 0, h => h
  | _, _, _ + 1, .nil => .nil
  | _, _, n + 1, .cons _ r => RpA.drop n r
theorem RpA.reverse {B : Hp} : ∀ {vs : List V} {ds : List D}, RpA B vs ds → RpA B vs.reverse ds.reverse
  | _, _, .nil => .nil
  | _, _, .cons a r => by
    rw [List.reverse_cons, List.reverse_cons]
    exact (RpA.reverse r).append (.cons a .nil)
theorem RpA.eraseIdx {B : Hp} : ∀ {vs : List V} {ds : List D} (n : Nat), RpA B vs ds → RpA B (vs.eraseIdx n) (ds.eraseIdx n)
  | _, _, _, .nil => .nil
  | _, _, 0, .cons _ r => r
  | _, _, n + 1, .cons a r => .cons a (RpA.eraseIdx n r)
theorem RpA.set {B : Hp} {v : V} {d : D} (h : Rp B v d) : ∀ {vs : List V} {ds : List D} (n : Nat), RpA B vs ds → RpA B (vs.set n v) (ds.set n d)
  | _, _, _, .nil => .nil
  | _, _, 0, .cons _ r => .cons h r
  | _, _, n + 1, .cons a r => .cons a (RpA.set h n r)
theorem RpA.ints {B : Hp} : ∀ {vs : List V} {ns : List Int}, RpA B vs (ns.map PyData.int) → vs = ns.map V.int
  | _, [], .nil => rfl
  | _, n :: ns, .cons a r => by
    cases a
    rw [List.map_cons, RpA.ints r]
theorem RpA.of_ints {B : Hp} : ∀ (ns : List Int), RpA B (ns.map V.int) (ns.map PyData.int)
  | [] => .nil
  | n :: ns => .cons (.int n) (RpA.of_ints ns)
theorem RpA.bls {B : Hp} : ∀ {vs : List V} {ns : List Bool}, RpA B vs (ns.map PyData.bool) → vs = ns.map V.bl
  | _, [], .nil => rfl
  | _, n :: ns, .cons a r => by
    cases a
    rw [List.map_cons, RpA.bls r]

/-! ### growth -/
def TupO (o : HO) : Prop := ∃ xs, o = .tup xs
structure Gr (H B H' B' : Hp) : Prop where
  le : Same H H'
  leB : Same B B'
  sub : Same B' H'
  new : ∀ a o, B' a = some o → B a = some o ∨ H a = none ∨ TupO o
theorem Gr.refl {H B : Hp} (h : Same B H) : Gr H B H B := ⟨.refl _, .refl _, h, fun _ _ e => .inl e⟩
theorem Gr.trans {H B H1 B1 H2 B2 : Hp} (a : Gr H B H1 B1) (b : Gr H1 B1 H2 B2) : Gr H B H2 B2 :=
  ⟨a.le.trans b.le, a.leB.trans b.leB, b.sub, fun x o e => by
    rcases b.new x o e with e | e | e
    · exact a.new x o e
    · exact .inr (.inl (a.le.free e))
    · exact .inr (.inr e)⟩
theorem same_upd {H : Hp} {p : Addr} {o : HO} (h : H p = none) : Same H (upd H p o) := fun b x e => by
  rw [upd_ne (ne_of_none e h)]
  exact e
theorem sub_none {B H : Hp} (h : Same B H) {p : Addr} (e : H p = none) : B p = none := h.free e
theorem upd_mono {B H : Hp} {p : Addr} {o : HO} (h : Same B H) : Same (upd B p o) (upd H p o) := fun b x e => by
  by_cases hb : b = p
  · subst hb; rw [upd_same] at e ⊢; exact e
  · rw [upd_ne hb] at e ⊢; exact h b x e
theorem Gr.put {H B : Hp} {p : Addr} {o : HO} (h : Same B H) (e : H p = none) : Gr H B (upd H p o) (upd B p o) :=
  ⟨same_upd e, same_upd (sub_none h e), upd_mono h, fun a x q => by
    by_cases hb : a = p
    · subst hb; exact .inr (.inl e)
    · rw [upd_ne hb] at q; exact .inl q⟩
theorem Gr.own {H B : Hp} {p : Addr} {o : HO} (h : Same B H) (e : H p = none) : Gr H B (upd H p o) B :=
  ⟨same_upd e, .refl _, h.trans (same_upd e), fun a x q => .inl q⟩

/-! ### owned things -/
def OwnRp (B H : Hp) (p : Addr) : D → Prop
  | .list ds => ∃ xs, H p = some (.lst xs) ∧ RpA B xs ds
  | .dict es => (∃ kvs, H p = some (.dK kvs) ∧ RpE B kvs es) ∨ ∃ kvs, H p = some (.dT kvs) ∧ RpT B kvs es ∧ es ≠ []
  | _ => False
theorem OwnRp.mono {B B' H H' : Hp} {p : Addr} (hb : Same B B') (hh : Same H H') : ∀ {d : D}, OwnRp B H p d → OwnRp B' H' p d
  | .list _, ⟨xs, e, a⟩ => ⟨xs, hh _ _ e, a.mono hb⟩
  | .dict _, .inl ⟨k, e, a⟩ => .inl ⟨k, hh _ _ e, a.mono hb⟩
  | .dict _, .inr ⟨k, e, a, n⟩ => .inr ⟨k, hh _ _ e, a.mono hb, n⟩
theorem OwnRp.at {B H H' : Hp} {p : Addr} (hh : ∀ o, H p = some o → H' p = some o) : ∀ {d : D}, OwnRp B H p d → OwnRp B H' p d
  | .list _, ⟨xs, e, a⟩ => ⟨xs, hh _ e, a⟩
  | .dict _, .inl ⟨k, e, a⟩ => .inl ⟨k, hh _ e, a⟩
  | .dict _, .inr ⟨k, e, a, n⟩ => .inr ⟨k, hh _ e, a, n⟩
theorem OwnRp.there {B H : Hp} {p : Addr} : ∀ {d : D}, OwnRp B H p d → ∃ o, H p = some o
  | .list _, ⟨_, e, _⟩ => ⟨_, e⟩
  | .dict _, .inl ⟨_, e, _⟩ => ⟨_, e⟩
  | .dict _, .inr ⟨_, e, _⟩ => ⟨_, e⟩
theorem OwnRp.nt {B H : Hp} {p : Addr} {x : HO} : ∀ {d : D}, OwnRp B H p d → H p = some x → ¬ TupO x
  | .list _, ⟨_, e, _⟩, h, ⟨_, z⟩ => by rw [e] at h; cases h; cases z
  | .dict _, .inl ⟨_, e, _⟩, h, ⟨_, z⟩ => by rw [e] at h; cases h; cases z
  | .dict _, .inr ⟨_, e, _⟩, h, ⟨_, z⟩ => by rw [e] at h; cases h; cases z
/-- frozen, an owned thing is a value -/
theorem OwnRp.freeze {B B' H : Hp} {p : Addr} (hb : Same B B') (hp : ∀ o, H p = some o → B' p = some o) : ∀ {d : D}, OwnRp B H p d → Rp B' (.ref p) d
  | .list _, ⟨_, e, a⟩ => .lst (hp _ e) (a.mono hb)
  | .dict _, .inl ⟨_, e, a⟩ => .dik (hp _ e) (a.mono hb)
  | .dict _, .inr ⟨_, e, a, n⟩ => .dit (hp _ e) (a.mono hb) n
/-- a value, or an owned thing -/
def Wk (B H : Hp) (v : V) (d : D) : Prop := Rp B v d ∨ ∃ p, v = .ref p ∧ OwnRp B H p d
inductive WkA (B H : Hp) : List V → List D → Prop
  | nil : WkA B H [] []
  | cons {v : V} {vs : List V} {d : D} {ds : List D} : Wk B H v d → WkA B H vs ds → WkA B H (v :: vs) (d :: ds)
section
variable {B H : Hp} {v : V}
theorem Wk.non (w : Wk B H v .none) : v = .non := by
  rcases w with w | ⟨p, _, w⟩
  · cases w; rfl
  · exact w.elim
theorem Wk.bl {b : Bool} (w : Wk B H v (.bool b)) : v = .bl b := by
  rcases w with w | ⟨p, _, w⟩
  · cases w; rfl
  · exact w.elim
theorem Wk.int {b : Int} (w : Wk B H v (.int b)) : v = .int b := by
  rcases w with w | ⟨p, _, w⟩
  · cases w; rfl
  · exact w.elim
theorem Wk.str {b : Str} (w : Wk B H v (.str b)) : v = .str b := by
  rcases w with w | ⟨p, _, w⟩
  · cases w; rfl
  · exact w.elim
theorem Wk.tup {ds : List D} (h : Same B H) (w : Wk B H v (.tuple ds)) : ∃ a xs, v = .ref a ∧ Tp H a xs ∧ Tp B a xs ∧ RpA B xs ds := by
  rcases w with w | ⟨p, _, w⟩
  · cases w with
    | tup e a => exact ⟨_, _, rfl, e.mono h, e, a⟩
  · exact w.elim
theorem Wk.lst {ds : List D} (h : Same B H) (w : Wk B H v (.list ds)) : ∃ a xs, v = .ref a ∧ H a = some (.lst xs) ∧ RpA B xs ds := by
  rcases w with w | ⟨p, rfl, xs, e, a⟩
  · cases w with
    | lst e a => exact ⟨_, _, rfl, h _ _ e, a⟩
  · exact ⟨_, _, rfl, e, a⟩
theorem Wk.dic {es : List (D × D)} (h : Same B H) (w : Wk B H v (.dict es)) : ∃ a, v = .ref a ∧ ((∃ kvs, H a = some (.dK kvs) ∧ RpE B kvs es) ∨ ∃ kvs, H a = some (.dT kvs) ∧ RpT B kvs es ∧ es ≠ []) := by
  rcases w with w | ⟨p, rfl, w⟩
  · cases w with
    | dik e a => exact ⟨_, rfl, .inl ⟨_, h _ _ e, a⟩⟩
    | dit e a n => exact ⟨_, rfl, .inr ⟨_, h _ _ e, a, n⟩⟩
  · exact ⟨_, rfl, w⟩
end

/-! ### the source -/
structure Src where
  cells : List Int
  left : Int
  mixed : Int
  turn : Int
def SrcAt (H : Hp) (S L : Addr) (st : Src) : Prop :=
  H S = some (.dK [(.inr (Str.ofString "cells"), .ref L), (.inr (Str.ofString "left"), .int st.left), (.inr (Str.ofString "mixed"), .int st.mixed), (.inr (Str.ofString "turn"), .int st.turn)]) ∧ H L = some (.lst (st.cells.map V.int))
theorem SrcAt.mono {H H' : Hp} {S L : Addr} {st : Src} (h : Same H H') (x : SrcAt H S L st) : SrcAt H' S L st := ⟨h _ _ x.1, h _ _ x.2⟩

/-! ### the state -/
inductive Slot where
  | nil | val (d : D) | own (d : D) | src
structure Rel (os : Option (Addr × Addr)) (δ : List Slot) (st : Src) (σ : St) (H B F : Hp) : Prop where
  sub : Same B H
  frm : Same F H
  dsj : ∀ a o, F a = some o → B a = none ∨ TupO o
  val : ∀ (i : Nat) (d : D), δ[i]? = some (.val d) → ∃ v, σ[i]? = some (some v) ∧ Rp B v d
  own : ∀ (i : Nat) (d : D), δ[i]? = some (.own d) → ∃ p, σ[i]? = some (some (.ref p)) ∧ OwnRp B H p d ∧ B p = none ∧ F p = none ∧ ∀ S L, os = some (S, L) → p ≠ S ∧ p ≠ L
  dis : ∀ (i j : Nat) (d e : D) (p : Addr), δ[i]? = some (.own d) → δ[j]? = some (.own e) → σ[i]? = some (some (.ref p)) → σ[j]? = some (some (.ref p)) → i = j
  src : ∀ (i : Nat), δ[i]? = some .src → ∃ S L, os = some (S, L) ∧ σ[i]? = some (some (.ref S))
  sat : ∀ S L, os = some (S, L) → SrcAt H S L st ∧ B S = none ∧ B L = none ∧ F S = none ∧ F L = none
  len : δ.length = σ.length
section
variable {os : Option (Addr × Addr)} {δ : List Slot} {st : Src} {σ : St} {H B F H' B' : Hp}
theorem new_not {H B H' B' : Hp} (g : Gr H B H' B') {a : Addr} {o : HO} (h : H a = some o) (b : B a = none) (nt : ¬ TupO o) : B' a = none := by
  cases e : B' a with
  | none => rfl
  | some x =>
    rcases g.new a x e with q | q | q
    · rw [b] at q; cases q
    · rw [h] at q; cases q
    · have h1 := g.sub _ _ e
      have h2 := g.le _ _ h
      rw [h1] at h2
      cases h2
      exact (nt q).elim
theorem Rel.grow (R : Rel os δ st σ H B F) (g : Gr H B H' B') : Rel os δ st σ H' B' F where
  sub := g.sub
  frm := R.frm.trans g.le
  dsj := fun a o e => by
    rcases R.dsj a o e with q | q
    · by_cases t : TupO o
      · exact .inr t
      · exact .inl (new_not g (R.frm _ _ e) q t)
    · exact .inr q
  val := fun i d e => let ⟨v, e1, r⟩ := R.val i d e; ⟨v, e1, r.mono g.leB⟩
  own := fun i d e => by
    obtain ⟨p, e1, o, b, f, n⟩ := R.own i d e
    obtain ⟨x, hx⟩ := o.there
    exact ⟨p, e1, o.mono g.leB g.le, new_not g hx b (o.nt hx), f, n⟩
  dis := R.dis
  src := R.src
  sat := fun S L e => by
    obtain ⟨s, b1, b2, f1, f2⟩ := R.sat S L e
    exact ⟨s.mono g.le, new_not g s.1 b1 (by rintro ⟨_, z⟩; cases z), new_not g s.2 b2 (by rintro ⟨_, z⟩; cases z), f1, f2⟩
  len := R.len
theorem Rel.bare (R : Rel os δ st σ H B F) : Rel os [] st [] H B F :=
  ⟨R.sub, R.frm, R.dsj, fun i d e => by simp at e, fun i d e => by simp at e, fun i j d e p h => by simp at h, fun i e => by simp at e, R.sat, rfl⟩
/-- what a slot's weak value is -/
def Wz (δ : List Slot) (σ : St) (B : Hp) (v : V) (d : D) : Prop := Rp B v d ∨ ∃ i : Nat, δ[i]? = some (.own d) ∧ σ[i]? = some (some v)
theorem Wz.wk (R : Rel os δ st σ H B F) {v : V} {d : D} (w : Wz δ σ B v d) : Wk B H v d := by
  rcases w with w | ⟨i, e1, e2⟩
  · exact .inl w
  · obtain ⟨p, e3, o, _⟩ := R.own i d e1
    rw [e2] at e3
    cases e3
    exact .inr ⟨p, rfl, o⟩
theorem Wz.mono {B B' : Hp} (h : Same B B') {v : V} {d : D} (w : Wz δ σ B v d) : Wz δ σ B' v d := by
  rcases w with w | w
  · exact .inl (w.mono h)
  · exact .inr w
/-- a new thing that nothing else holds -/
structure New (os : Option (Addr × Addr)) (δ : List Slot) (σ : St) (B F : Hp) (p : Addr) : Prop where
  b : B p = none
  f : F p = none
  o : ∀ (i : Nat) (d : D), δ[i]? = some (.own d) → σ[i]? ≠ some (some (.ref p))
  s : ∀ S L, os = some (S, L) → p ≠ S ∧ p ≠ L
theorem Rel.new (R : Rel os δ st σ H B F) {p : Addr} (h : H p = none) : New os δ σ B F p :=
  ⟨sub_none R.sub h, sub_none R.frm h, (fun i d e z => by
    obtain ⟨q, e1, o, _⟩ := R.own i d e
    rw [z] at e1
    cases e1
    obtain ⟨x, hx⟩ := o.there
    rw [h] at hx
    cases hx), (fun S L e => by
    obtain ⟨s, _⟩ := R.sat S L e
    exact ⟨(fun z => by rw [z, s.1] at h; cases h), (fun z => by rw [z, s.2] at h; cases h)⟩)⟩
/-- it is frozen -/
theorem Rel.freeze (R : Rel os δ st σ H B F) {p : Addr} {d : D} (n : New os δ σ B F p) (o : OwnRp B H p d) :
    ∃ B', Same B B' ∧ Rel os δ st σ H B' F ∧ Rp B' (.ref p) d := by
  obtain ⟨x, hx⟩ := o.there
  have sB : Same B (upd B p x) := same_upd n.b
  have nu : ∀ a, a ≠ p → B a = none → upd B p x a = none := fun a ha e => by rw [upd_ne ha]; exact e
  refine ⟨upd B p x, sB, ⟨fun a o e => ?_, R.frm, fun a o e => ?_, fun i d e => let ⟨v, e1, r⟩ := R.val i d e; ⟨v, e1, r.mono sB⟩, fun i d e => ?_, R.dis, R.src, fun S L e => ?_, R.len⟩, o.freeze sB fun o' e => ?_⟩
  · by_cases ha : a = p
    · subst ha; rw [upd_same] at e; cases e; exact hx
    · rw [upd_ne ha] at e; exact R.sub _ _ e
  · rcases R.dsj a o e with q | q
    · exact .inl (nu a (fun z => by rw [z, n.f] at e; cases e) q)
    · exact .inr q
  · obtain ⟨q, e1, oq, b, f, s⟩ := R.own i d e
    have hq : q ≠ p := fun z => n.o i d e (by rw [e1, z])
    exact ⟨q, e1, oq.mono sB (.refl _), nu q hq b, f, s⟩
  · obtain ⟨s, b1, b2, f1, f2⟩ := R.sat S L e
    obtain ⟨h1, h2⟩ := n.s S L e
    exact ⟨s, nu S h1.symm b1, nu L h2.symm b2, f1, f2⟩
  · rw [hx] at e; cases e; exact upd_same
end

/-! ### the monad of what is computed -/
abbrev M (α : Type) := Src → Option (α × Src)
def mp {α : Type} (a : α) : M α := fun s => some (a, s)
def mb {α β : Type} (x : M α) (f : α → M β) : M β := fun s => match x s with
  | some (a, s') => f a s'
  | none => none
def ml {α : Type} (o : Option α) : M α := fun s => match o with
  | some a => some (a, s)
  | none => none
def m0 {α : Type} : M α := fun _ => none
theorem mb_some {α β : Type} {x : M α} {f : α → M β} {s : Src} {r : β × Src} (h : mb x f s = some r) : ∃ a s1, x s = some (a, s1) ∧ f a s1 = some r := by
  unfold mb at h
  cases e : x s with
  | none => rw [e] at h; cases h
  | some p =>
    rw [e] at h
    exact ⟨p.1, p.2, rfl, h⟩
theorem ml_some {α : Type} {o : Option α} {s s' : Src} {a : α} (h : ml o s = some (a, s')) : o = some a ∧ s' = s := by
  unfold ml at h
  cases o with
  | none => cases h
  | some b => cases h; exact ⟨rfl, rfl⟩
theorem mp_some {α : Type} {b a : α} {s s' : Src} (h : mp b s = some (a, s')) : b = a ∧ s' = s := by
  cases h; exact ⟨rfl, rfl⟩
@[simp] theorem mb_mp {α β : Type} (a : α) (f : α → M β) : mb (mp a) f = f a := rfl
@[simp] theorem ml_mp {α : Type} (a : α) : ml (some a) = mp a := rfl
@[simp] theorem ml_none {α : Type} : (ml (none : Option α)) = m0 := rfl
@[simp] theorem mb_m0 {α β : Type} (f : α → M β) : mb (m0 : M α) f = m0 := rfl
theorem mb_assoc {α β γ : Type} (x : M α) (f : α → M β) (g : β → M γ) : mb (mb x f) g = mb x fun a => mb (f a) g := by
  funext s
  unfold mb
  cases x s <;> rfl
theorem mb_mp_r {α : Type} (x : M α) : mb x mp = x := by
  funext s
  unfold mb mp
  cases x s <;> rfl

/-! ### readings -/
abbrev Fx (α : Type) := List Slot → M α
section
variable (os : Option (Addr × Addr))
/-- a value -/
def tS (f : Fx D) : TE := fun σ H Q => ∃ δ st B F d st', Rel os δ st σ H B F ∧ f δ st = some (d, st') ∧ ∀ v H' B', Same B B' → Rel os δ st' σ H' B' F → Rp B' v d → Q v H'
/-- a value, or an owned thing at a slot -/
def tW (f : Fx D) : TE := fun σ H Q => ∃ δ st B F d st', Rel os δ st σ H B F ∧ f δ st = some (d, st') ∧ ∀ v H' B', Same B B' → Rel os δ st' σ H' B' F → Wz δ σ B' v d → Q v H'
/-- a new owned thing -/
def tF (f : Fx D) : TE := fun σ H Q => ∃ δ st B F d st', Rel os δ st σ H B F ∧ f δ st = some (d, st') ∧ ∀ p H' B', Same B B' → Rel os δ st' σ H' B' F → OwnRp B' H' p d → New os δ σ B' F p → Q (.ref p) H'
/-- arguments -/
def tA (f : Fx (List D)) : TA := fun σ H Q => ∃ δ st B F d st', Rel os δ st σ H B F ∧ f δ st = some (d, st') ∧ ∀ v H' B', Same B B' → Rel os δ st' σ H' B' F → RpA B' v d → Q v H'
inductive WzA (δ : List Slot) (σ : St) (B : Hp) : List V → List D → Prop
  | nil : WzA δ σ B [] []
  | cons {v : V} {vs : List V} {d : D} {ds : List D} : Wz δ σ B v d → WzA δ σ B vs ds → WzA δ σ B (v :: vs) (d :: ds)
def tWA (f : Fx (List D)) : TA := fun σ H Q => ∃ δ st B F d st', Rel os δ st σ H B F ∧ f δ st = some (d, st') ∧ ∀ v H' B', Same B B' → Rel os δ st' σ H' B' F → WzA δ σ B' v d → Q v H'
/-- a test -/
def tT (f : Fx Bool) : TT := fun σ H Q => ∃ δ st B F d st', Rel os δ st σ H B F ∧ f δ st = some (d, st') ∧ ∀ H' B', Same B B' → Rel os δ st' σ H' B' F → Q d H'
inductive Flow where
  | nx (δ : List Slot) | rt (d : D) | bk (δ : List Slot) | ct (δ : List Slot)
def FlowTo (F : Hp) (B : Hp) (E : Ends) (st' : Src) : Flow → Prop
  | .nx δ' => ∀ σ' H' B', Same B B' → Rel os δ' st' σ' H' B' F → E.nx σ' H'
  | .rt d => ∀ v H' B', Same B B' → Rel os [] st' [] H' B' F → Rp B' v d → E.rt v H'
  | .bk δ' => ∀ σ' H' B', Same B B' → Rel os δ' st' σ' H' B' F → E.bk σ' H'
  | .ct δ' => ∀ σ' H' B', Same B B' → Rel os δ' st' σ' H' B' F → E.ct σ' H'
/-- a statement, a block -/
def tB (f : Fx Flow) : TS := fun E σ H => ∃ δ st B F fl st', Rel os δ st σ H B F ∧ f δ st = some (fl, st') ∧ FlowTo os F B E st' fl
end
theorem WzA.mono {δ : List Slot} {σ : St} {B B' : Hp} (h : Same B B') : ∀ {v : List V} {d : List D}, WzA δ σ B v d → WzA δ σ B' v d
  | _, _, .nil => .nil
  | _, _, .cons a r => .cons (a.mono h) (WzA.mono h r)
theorem WzA.wk {os : Option (Addr × Addr)} {δ : List Slot} {st : Src} {σ : St} {H B F : Hp} (R : Rel os δ st σ H B F) : ∀ {v : List V} {d : List D}, WzA δ σ B v d → WkA B H v d
  | _, _, .nil => .nil
  | _, _, .cons a r => .cons (a.wk R) (WzA.wk R r)
section
variable {X : Cx} {e : Expr} {es : List Expr}
theorem _root_.L2.PE.wk {t t' : TE} (h : PE X e t) (hh : ∀ σ H Q, t' σ H Q → t σ H Q) : PE X e t' := ⟨fun pins s σ H Q I q => h.run pins s σ H Q I (hh σ H Q q)⟩
theorem _root_.L2.PT.wk {t t' : TT} (h : PT X e t) (hh : ∀ σ H Q, t' σ H Q → t σ H Q) : PT X e t' := ⟨fun pins s σ H Q I q => h.run pins s σ H Q I (hh σ H Q q)⟩
theorem _root_.L2.PW.wk {t t' : TT} (h : PW X e t) (hh : ∀ σ H Q, t' σ H Q → t σ H Q) : PW X e t' := ⟨fun wh pins s σ H Q I q => h.run wh pins s σ H Q I (hh σ H Q q)⟩
theorem _root_.L2.PA.wk {t t' : TA} (h : PA X es t) (hh : ∀ σ H Q, t' σ H Q → t σ H Q) : PA X es t' := ⟨fun pos pins s σ H Q I q => h.run pos pins s σ H Q I (hh σ H Q q)⟩
theorem _root_.L2.PS.wk {st : Stmt} {t t' : TS} (h : PS X st t) (hh : ∀ E σ H, t' E σ H → t E σ H) : PS X st t' := ⟨fun pins s σ H E I q => h.run pins s σ H E I (hh E σ H q)⟩
theorem _root_.L2.PSs.wk {st : List Stmt} {t t' : TS} (h : PSs X st t) (hh : ∀ E σ H, t' E σ H → t E σ H) : PSs X st t' := ⟨fun pins s σ H E I q => h.run pins s σ H E I (hh E σ H q)⟩
theorem _root_.L2.PTs.wk {st : List Expr} {t t' : TT} (h : PTs X st t) (hh : ∀ σ H Q, t' σ H Q → t σ H Q) : PTs X st t' := ⟨fun pins s σ H E I q => h.run pins s σ H E I (hh σ H E q)⟩
theorem _root_.L2.PI.wk {tg : Expr} {t t' : TI} (h : PI X tg e t) (hh : ∀ σ H Q, t' σ H Q → t σ H Q) : PI X tg e t' := ⟨fun pins s σ H Q I q => h.run pins s σ H Q I (hh σ H Q q)⟩
variable {os : Option (Addr × Addr)}
/-- a new thing taken as a value -/
theorem frz {f : Fx D} (h : PE X e (tF os f)) : PE X e (tS os f) := h.wk fun σ H Q ⟨δ, st, B, F, d, st', R, ef, q⟩ =>
  ⟨δ, st, B, F, d, st', R, ef, fun p H' B' le R' o n => by
    obtain ⟨B2, l2, R2, r2⟩ := R'.freeze n o
    exact q _ _ B2 (le.trans l2) R2 r2⟩
/-- a value taken weakly -/
theorem wk {f : Fx D} (h : PE X e (tS os f)) : PE X e (tW os f) := h.wk fun σ H Q ⟨δ, st, B, F, d, st', R, ef, q⟩ =>
  ⟨δ, st, B, F, d, st', R, ef, fun v H' B' le R' r => q v H' B' le R' (.inl r)⟩

/-! ### names, constants -/
def gv (i : Nat) : Fx D := fun δ => match δ[i]? with
  | some (.val d) => mp d
  | _ => m0
def gw (i : Nat) : Fx D := fun δ => match δ[i]? with
  | some (.val d) => mp d
  | some (.own d) => mp d
  | _ => m0
theorem nv {i : Nat} {x : Str} {pos : Pos} (h : PE X (.Name x pos) (tVar i)) : PE X (.Name x pos) (tS os (gv i)) := h.wk fun σ H Q ⟨δ, st, B, F, d, st', R, ef, q⟩ => by
  unfold gv at ef
  cases e1 : δ[i]? with
  | none => rw [e1] at ef; cases ef
  | some sl =>
    rw [e1] at ef
    cases sl with
    | val d0 =>
      obtain ⟨rfl, rfl⟩ := mp_some ef
      obtain ⟨v, e2, r⟩ := R.val i _ e1
      exact ⟨v, e2, q v H B (.refl _) R r⟩
    | _ => cases ef
theorem nw {i : Nat} {x : Str} {pos : Pos} (h : PE X (.Name x pos) (tVar i)) : PE X (.Name x pos) (tW os (gw i)) := h.wk fun σ H Q ⟨δ, st, B, F, d, st', R, ef, q⟩ => by
  unfold gw at ef
  cases e1 : δ[i]? with
  | none => rw [e1] at ef; cases ef
  | some sl =>
    rw [e1] at ef
    cases sl with
    | val d0 =>
      obtain ⟨rfl, rfl⟩ := mp_some ef
      obtain ⟨v, e2, r⟩ := R.val i _ e1
      exact ⟨v, e2, q v H B (.refl _) R (.inl r)⟩
    | own d0 =>
      obtain ⟨rfl, rfl⟩ := mp_some ef
      obtain ⟨p, e2, _⟩ := R.own i _ e1
      exact ⟨_, e2, q _ H B (.refl _) R (.inr ⟨i, e1, e2⟩)⟩
    | _ => cases ef
theorem cst {c : V} {d0 : D} (h : PE X e (tC c)) (hr : ∀ B, Rp B c d0) : PE X e (tS os fun _ => mp d0) := h.wk fun σ H Q ⟨δ, st, B, F, d, st', R, ef, q⟩ => by
  obtain ⟨rfl, rfl⟩ := mp_some ef
  exact q c H B (.refl _) R (hr B)
theorem ci {i : Int} {j pos} : PE X (.Constant (.int i) j pos) (tS os fun _ => mp (.int i)) := cst pe_int fun _ => .int i
theorem cb {i : Bool} {j pos} : PE X (.Constant (.bool i) j pos) (tS os fun _ => mp (.bool i)) := cst pe_bl fun _ => .bl i
theorem cs {i : Str} {j pos} : PE X (.Constant (.str i) j pos) (tS os fun _ => mp (.str i)) := cst pe_str fun _ => .str i
theorem cn {j pos} : PE X (.Constant .none j pos) (tS os fun _ => mp .none) := cst pe_non fun _ => .non

/-! ### operations by data -/
def r2 (h : D → D → Option D) : R2 := fun x y H Q => ∃ B a b d, Same B H ∧ Wk B H x a ∧ Wk B H y b ∧ h a b = some d ∧ ∀ z H' B', Gr H B H' B' → Rp B' z d → Q z H'
def r2F (h : D → D → Option D) : R2 := fun x y H Q => ∃ B a b d, Same B H ∧ Wk B H x a ∧ Wk B H y b ∧ h a b = some d ∧ ∀ p H' B', Gr H B H' B' → H p = none → B' p = none → OwnRp B' H' p d → Q (.ref p) H'
def r1 (h : D → Option D) : V → Hp → VK → Prop := fun x H Q => ∃ B a d, Same B H ∧ Wk B H x a ∧ h a = some d ∧ ∀ z H' B', Gr H B H' B' → Rp B' z d → Q z H'
def rc (h : List D → Option D) : List V → Hp → VK → Prop := fun xs H Q => ∃ B a d, Same B H ∧ WkA B H xs a ∧ h a = some d ∧ ∀ z H' B', Gr H B H' B' → Rp B' z d → Q z H'
def rcF (h : List D → Option D) : List V → Hp → VK → Prop := fun xs H Q => ∃ B a d, Same B H ∧ WkA B H xs a ∧ h a = some d ∧ ∀ p H' B', Gr H B H' B' → H p = none → B' p = none → OwnRp B' H' p d → Q (.ref p) H'
variable {a b c : Expr} {f g k : Fx D} {pos : Pos}
def f2 (h : D → D → Option D) (f g : Fx D) : Fx D := fun δ => mb (f δ) fun x => mb (g δ) fun y => ml (h x y)
def f1 (h : D → Option D) (f : Fx D) : Fx D := fun δ => mb (f δ) fun x => ml (h x)
def fc (h : List D → Option D) (f : Fx (List D)) : Fx D := fun δ => mb (f δ) fun x => ml (h x)
theorem rd2 {h : D → D → Option D} {σ : St} {H : Hp} {Q : VK} (q : tS os (f2 h f g) σ H Q) : tOp (r2 h) (tW os f) (tW os g) σ H Q := by
  obtain ⟨δ, st, B, F, d, st', R, e, q⟩ := q
  obtain ⟨x, s1, e1, e⟩ := mb_some e
  obtain ⟨y, s2, e2, e⟩ := mb_some e
  obtain ⟨e3, rfl⟩ := ml_some e
  exact ⟨δ, st, B, F, x, s1, R, e1, fun v H1 B1 l1 R1 w1 => ⟨δ, s1, B1, F, y, _, R1, e2, fun u H2 B2 l2 R2 w2 =>
    ⟨B2, x, y, d, R2.sub, (w1.mono l2).wk R2, w2.wk R2, e3, fun z H3 B3 g3 r3 => q z H3 B3 (l1.trans (l2.trans g3.leB)) (R2.grow g3) r3⟩⟩⟩
theorem new_grow {δ : List Slot} {st : Src} {σ : St} {H B F H' B' : Hp} (R : Rel os δ st σ H B F) {p : Addr} (h : H p = none) (b : B' p = none) : New os δ σ B' F p :=
  let n := R.new h
  ⟨b, n.f, n.o, n.s⟩
theorem rd2F {h : D → D → Option D} {σ : St} {H : Hp} {Q : VK} (q : tF os (f2 h f g) σ H Q) : tOp (r2F h) (tW os f) (tW os g) σ H Q := by
  obtain ⟨δ, st, B, F, d, st', R, e, q⟩ := q
  obtain ⟨x, s1, e1, e⟩ := mb_some e
  obtain ⟨y, s2, e2, e⟩ := mb_some e
  obtain ⟨e3, rfl⟩ := ml_some e
  exact ⟨δ, st, B, F, x, s1, R, e1, fun v H1 B1 l1 R1 w1 => ⟨δ, s1, B1, F, y, _, R1, e2, fun u H2 B2 l2 R2 w2 =>
    ⟨B2, x, y, d, R2.sub, (w1.mono l2).wk R2, w2.wk R2, e3, fun p H3 B3 g3 n1 n2 r3 => q p H3 B3 (l1.trans (l2.trans g3.leB)) (R2.grow g3) r3 (new_grow (H' := H3) R2 n1 n2)⟩⟩⟩
theorem eop {op : Operator} {h : D → D → Option D} (ho : OpR X (binaryOp op) (r2 h)) (ha : PE X a (tW os f)) (hb : PE X b (tW os g)) : PE X (.BinOp a op b pos) (tS os (f2 h f g)) := (pe_op ho ha hb).wk fun σ H Q q => rd2 q
theorem eopF {op : Operator} {h : D → D → Option D} (ho : OpR X (binaryOp op) (r2F h)) (ha : PE X a (tW os f)) (hb : PE X b (tW os g)) : PE X (.BinOp a op b pos) (tF os (f2 h f g)) := (pe_op ho ha hb).wk fun σ H Q q => rd2F q
theorem ecmp {op : CmpOp} {h : D → D → Option D} (ho : OpR X (compareOp op) (r2 h)) (ha : PE X a (tW os f)) (hb : PE X b (tW os g)) (hm : behindInMarks op b = false := by first | exact nobehind _ (by decide) (by decide) | rfl) : PE X (.Compare a [op] [b] pos) (tS os (f2 h f g)) := (pe_cmpR ho ha hb hm).wk fun σ H Q q => rd2 q
theorem eix {h : D → D → Option D} (ho : IxR X (r2 h)) (ha : PE X a (tW os f)) (hb : PE X b (tW os g)) (hs : PlainIx b := by intro _ _; rfl) : PE X (.Subscript a b pos) (tS os (f2 h f g)) := (pe_ix ho ha hb hs).wk fun σ H Q q => rd2 q
theorem eun {op : UnaryOp} {h : D → Option D} (ho : UnR X (unaryOp op) (r1 h)) (ha : PE X a (tW os f)) : PE X (.UnaryOp op a pos) (tS os (f1 h f)) := (pe_un ho ha).wk fun σ H Q ⟨δ, st, B, F, d, st', R, e, q⟩ => by
  obtain ⟨x, s1, e1, e⟩ := mb_some e
  obtain ⟨e3, rfl⟩ := ml_some e
  exact ⟨δ, st, B, F, x, _, R, e1, fun v H1 B1 l1 R1 w1 => ⟨B1, x, d, R1.sub, w1.wk R1, e3, fun z H3 B3 g3 r3 => q z H3 B3 (l1.trans g3.leB) (R1.grow g3) r3⟩⟩

/-! ### argument lists, displays -/
def fNil : Fx (List D) := fun _ => mp []
def fCons (f : Fx D) (r : Fx (List D)) : Fx (List D) := fun δ => mb (f δ) fun x => mb (r δ) fun xs => mp (x :: xs)
variable {fr : Fx (List D)}
theorem anil : PA X [] (tA os fNil) := pa_nil.wk fun σ H Q ⟨δ, st, B, F, d, st', R, e, q⟩ => by
  obtain ⟨rfl, rfl⟩ := mp_some e
  exact q [] H B (.refl _) R .nil
theorem acons (ha : PE X e (tS os f)) (hr : PA X es (tA os fr)) (hs : starEach (e :: es) X.env = (false, eval e X.env) :: starEach es X.env := by rfl) : PA X (e :: es) (tA os (fCons f fr)) := (pa_cons ha hr hs).wk fun σ H Q ⟨δ, st, B, F, d, st', R, e, q⟩ => by
  obtain ⟨x, s1, e1, e⟩ := mb_some e
  obtain ⟨y, s2, e2, e⟩ := mb_some e
  obtain ⟨rfl, rfl⟩ := mp_some e
  exact ⟨δ, st, B, F, x, s1, R, e1, fun v H1 B1 l1 R1 w1 => ⟨δ, s1, B1, F, y, _, R1, e2, fun u H2 B2 l2 R2 w2 => q _ H2 B2 (l1.trans l2) R2 (.cons (w1.mono l2) w2)⟩⟩
theorem wnil : PA X [] (tWA os fNil) := pa_nil.wk fun σ H Q ⟨δ, st, B, F, d, st', R, e, q⟩ => by
  obtain ⟨rfl, rfl⟩ := mp_some e
  exact q [] H B (.refl _) R .nil
theorem wcons (ha : PE X e (tW os f)) (hr : PA X es (tWA os fr)) (hs : starEach (e :: es) X.env = (false, eval e X.env) :: starEach es X.env := by rfl) : PA X (e :: es) (tWA os (fCons f fr)) := (pa_cons ha hr hs).wk fun σ H Q ⟨δ, st, B, F, d, st', R, e, q⟩ => by
  obtain ⟨x, s1, e1, e⟩ := mb_some e
  obtain ⟨y, s2, e2, e⟩ := mb_some e
  obtain ⟨rfl, rfl⟩ := mp_some e
  exact ⟨δ, st, B, F, x, s1, R, e1, fun v H1 B1 l1 R1 w1 => ⟨δ, s1, B1, F, y, _, R1, e2, fun u H2 B2 l2 R2 w2 => q _ H2 B2 (l1.trans l2) R2 (.cons (w1.mono l2) w2)⟩⟩
def tupD (xs : List D) : Option D := if xs.length ≤ sizeLine then some (.tuple xs) else none
def lstD (xs : List D) : Option D := if xs.length ≤ sizeLine then some (.list xs) else none
theorem tupD_some {xs : List D} {d : D} (h : tupD xs = some d) : d = .tuple xs ∧ xs.length ≤ sizeLine := by
  unfold tupD at h
  split at h
  · cases h; exact ⟨rfl, by assumption⟩
  · cases h
theorem lstD_some {xs : List D} {d : D} (h : lstD xs = some d) : d = .list xs ∧ xs.length ≤ sizeLine := by
  unfold lstD at h
  split at h
  · cases h; exact ⟨rfl, by assumption⟩
  · cases h
def tTupZ (t : TA) : TE := fun σ H Q => t σ H fun xs H1 => xs.length ≤ sizeLine ∧ ∀ (p : Addr) (o : Obj), H1 p = none → o.dict = none → Q (.ref p) (upd H1 p (.tup xs))
theorem pe_tupZ {x1} {t : TA} (h : PA X es t) : PE X (.Tuple es x1 pos) (tTupZ t) := by
  refine ⟨fun pins s σ H Q I hq => ?_⟩
  refine wpAny_Tuple_spliced (thn (h.run pos pins s σ H _ I hq) fun us s1 ⟨xs, H1, I1, r, z, q⟩ => ⟨by rw [← r.length]; exact z, ?_⟩)
  let o : Obj := { cls := .type "tuple", data := .seq us.toArray }
  refine ⟨.ref s1.heap.objs.size, upd H1 s1.heap.objs.size (.tup xs), I1.laid (t' := s1.toks) (fun b u e => Heap.get?_push_of_some _ e) (Nat.le_refl _) ?_, rfl, q _ o (I1.hok.fresh (Nat.le_refl _)) rfl⟩
  exact ⟨z, us, r, ⟨_, Heap.get?_push_size _ rfl, rfl, _, rfl⟩⟩
theorem etup {x1} (h : PA X es (tA os fr)) : PE X (.Tuple es x1 pos) (tS os (fc tupD fr)) := (pe_tupZ h).wk fun σ H Q ⟨δ, st, B, F, d, st', R, e, q⟩ => by
  obtain ⟨x, s1, e1, e⟩ := mb_some e
  obtain ⟨e3, rfl⟩ := ml_some e
  obtain ⟨rfl, hl⟩ := tupD_some e3
  exact ⟨δ, st, B, F, x, _, R, e1, fun v H1 B1 l1 R1 w1 => ⟨by rw [w1.length]; exact hl, fun p o hp hd => by
    have g : Gr H1 B1 (upd H1 p (.tup v)) (upd B1 p (.tup v)) := Gr.put R1.sub hp
    exact q _ _ _ (l1.trans g.leB) (R1.grow g) (.tup (.put hd) (w1.mono g.leB))⟩⟩
theorem elstF (h : PA X es (tA os fr)) : PE X (.List es pos) (tF os (fc lstD fr)) := (pe_lst h).wk fun σ H Q ⟨δ, st, B, F, d, st', R, e, q⟩ => by
  obtain ⟨x, s1, e1, e⟩ := mb_some e
  obtain ⟨e3, rfl⟩ := ml_some e
  obtain ⟨rfl, hl⟩ := lstD_some e3
  exact ⟨δ, st, B, F, x, _, R, e1, fun v H1 B1 l1 R1 w1 => ⟨by rw [w1.length]; exact hl, fun p hp => by
    have g : Gr H1 B1 (upd H1 p (.lst v)) B1 := Gr.own R1.sub hp
    exact q _ _ _ (l1.trans g.leB) (R1.grow g) ⟨_, upd_same, w1⟩ (new_grow (H' := H1) R1 hp (sub_none R1.sub hp))⟩⟩

/-! ### built-ins by name -/
variable {x : Str} {p : Pos} {id T : String}
theorem ecB {h : List D → Option D} (hc : CallR X (.builtin id) (rc h)) (hg : Gl X x) (hm : X.mg x = none) (hv : bootBuiltins x = some (.builtin id)) (ha : PA X (e :: es) (tWA os fr)) (hn : x ≠ "__name__" := by decide) (hdb : (x == ("__debug__" : Str)) = false := by decide)
    (he : starEach (e :: es) X.env = (false, eval e X.env) :: starEach es X.env := by rfl) (hpl : (backTo pos (starEach es X.env)).any (·.1) = false := by rfl) : PE X (.Call (.Name x p) (e :: es) [] pos) (tS os (fc h fr)) :=
  (pe_callB hc hg hm hv ha hn hdb he hpl).wk fun σ H Q ⟨δ, st, B, F, d, st', R, e, q⟩ => by
    obtain ⟨x, s1, e1, e⟩ := mb_some e
    obtain ⟨e3, rfl⟩ := ml_some e
    exact ⟨δ, st, B, F, x, _, R, e1, fun v H1 B1 l1 R1 w1 => ⟨B1, x, d, R1.sub, w1.wk R1, e3, fun z H3 B3 g3 r3 => q z H3 B3 (l1.trans g3.leB) (R1.grow g3) r3⟩⟩
theorem ecBF {h : List D → Option D} (hc : CallR X (.builtin id) (rcF h)) (hg : Gl X x) (hm : X.mg x = none) (hv : bootBuiltins x = some (.builtin id)) (ha : PA X (e :: es) (tWA os fr)) (hn : x ≠ "__name__" := by decide) (hdb : (x == ("__debug__" : Str)) = false := by decide)
    (he : starEach (e :: es) X.env = (false, eval e X.env) :: starEach es X.env := by rfl) (hpl : (backTo pos (starEach es X.env)).any (·.1) = false := by rfl) : PE X (.Call (.Name x p) (e :: es) [] pos) (tF os (fc h fr)) :=
  (pe_callB hc hg hm hv ha hn hdb he hpl).wk fun σ H Q ⟨δ, st, B, F, d, st', R, e, q⟩ => by
    obtain ⟨x, s1, e1, e⟩ := mb_some e
    obtain ⟨e3, rfl⟩ := ml_some e
    exact ⟨δ, st, B, F, x, _, R, e1, fun v H1 B1 l1 R1 w1 => ⟨B1, x, d, R1.sub, w1.wk R1, e3, fun z H3 B3 g3 n1 n2 r3 => q z H3 B3 (l1.trans g3.leB) (R1.grow g3) r3 (new_grow (H' := H3) R1 n1 n2)⟩⟩
theorem ecT {h : List D → Option D} (hc : CallR X (.type T) (rc h)) (hg : Gl X x) (hm : X.mg x = none) (hv : bootBuiltins x = some (.type T)) (ha : PA X (e :: es) (tWA os fr)) (hn : x ≠ "__name__" := by decide) (hdb : (x == ("__debug__" : Str)) = false := by decide)
    (he : starEach (e :: es) X.env = (false, eval e X.env) :: starEach es X.env := by rfl) (hpl : (backTo pos (starEach es X.env)).any (·.1) = false := by rfl) : PE X (.Call (.Name x p) (e :: es) [] pos) (tS os (fc h fr)) :=
  (pe_callTy hc hg hm hv ha hn hdb he hpl).wk fun σ H Q ⟨δ, st, B, F, d, st', R, e, q⟩ => by
    obtain ⟨x, s1, e1, e⟩ := mb_some e
    obtain ⟨e3, rfl⟩ := ml_some e
    exact ⟨δ, st, B, F, x, _, R, e1, fun v H1 B1 l1 R1 w1 => ⟨B1, x, d, R1.sub, w1.wk R1, e3, fun z H3 B3 g3 r3 => q z H3 B3 (l1.trans g3.leB) (R1.grow g3) r3⟩⟩
theorem ecTF {h : List D → Option D} (hc : CallR X (.type T) (rcF h)) (hg : Gl X x) (hm : X.mg x = none) (hv : bootBuiltins x = some (.type T)) (ha : PA X (e :: es) (tWA os fr)) (hn : x ≠ "__name__" := by decide) (hdb : (x == ("__debug__" : Str)) = false := by decide)
    (he : starEach (e :: es) X.env = (false, eval e X.env) :: starEach es X.env := by rfl) (hpl : (backTo pos (starEach es X.env)).any (·.1) = false := by rfl) : PE X (.Call (.Name x p) (e :: es) [] pos) (tF os (fc h fr)) :=
  (pe_callTy hc hg hm hv ha hn hdb he hpl).wk fun σ H Q ⟨δ, st, B, F, d, st', R, e, q⟩ => by
    obtain ⟨x, s1, e1, e⟩ := mb_some e
    obtain ⟨e3, rfl⟩ := ml_some e
    exact ⟨δ, st, B, F, x, _, R, e1, fun v H1 B1 l1 R1 w1 => ⟨B1, x, d, R1.sub, w1.wk R1, e3, fun z H3 B3 g3 n1 n2 r3 => q z H3 B3 (l1.trans g3.leB) (R1.grow g3) r3 (new_grow (H' := H3) R1 n1 n2)⟩⟩
end
end VL

/-! VL1: tests, statements, loops, comprehensions by data. -/
namespace VL
open PySem PySem.Spec PyProof.Rows L2
section
variable {X : Cx} {e a b c : Expr} {es rest : List Expr} {os : Option (Addr × Addr)} {f g k : Fx D} {pos : Pos}

/-! ### tests -/
def asB : D → M Bool
  | .bool b => mp b
  | _ => m0
theorem asB_some {d : D} {s s' : Src} {k : Bool} (h : asB d s = some (k, s')) : d = .bool k ∧ s' = s := by
  cases d with
  | bool b => cases h; exact ⟨rfl, rfl⟩
  | _ => cases h
def fB (f : Fx D) : Fx Bool := fun δ => mb (f δ) asB
/-- from a value's reading to a test's -/
theorem rdB {t : TE} {σ : St} {H : Hp} {Q : Bool → Hp → Prop} (h : ∀ σ H Q, tS os f σ H Q → t σ H Q) (q : tT os (fB f) σ H Q) : t σ H fun x H1 => ∃ c, x = .bl c ∧ Q c H1 := by
  obtain ⟨δ, st, B, F, d, st', R, e, q⟩ := q
  obtain ⟨x, s1, e1, e⟩ := mb_some e
  obtain ⟨rfl, rfl⟩ := asB_some e
  refine h σ H _ ⟨δ, st, B, F, _, _, R, e1, fun v H' B' l R' r => ?_⟩
  cases r
  exact ⟨d, rfl, q H' B' l R'⟩
theorem tval (he : PE X e (tS os f)) (h0 : ∀ whole, isTrue e X.env whole = (do let v ← whole; standAt e.pos; holding [v] (truthy v)) := by intro _; rfl) : PT X e (tT os (fB f)) := (pt_val he h0).wk fun σ H Q q => rdB (fun _ _ _ x => x) q
theorem tcmp {op : CmpOp} {h : D → D → Option D} (ho : OpR X (compareOp op) (r2 h)) (ha : PE X a (tW os f)) (hb : PE X b (tW os g)) (hm : behindInMarks op b = false := by first | exact nobehind _ (by decide) (by decide) | rfl) : PT X (.Compare a [op] [b] pos) (tT os (fB (f2 h f g))) := (pt_cmpR ho ha hb hm).wk fun σ H Q q => rdB (t := tOp (r2 h) (tW os f) (tW os g)) (fun _ _ _ x => rd2 x) q
def fCh (h h' : D → D → Option D) (f g k : Fx D) : Fx D := fun δ => mb (f δ) fun x => mb (g δ) fun y => mb (ml (h x y)) fun z => mb (asB z) fun c => if c = true then mb (k δ) fun w => ml (h' y w) else mp (.bool false)
theorem rdCh {h h' : D → D → Option D} {σ : St} {H : Hp} {Q : VK} (q : tS os (fCh h h' f g k) σ H Q) : tChain (r2 h) (r2 h') (tW os f) (tW os g) (tW os k) σ H Q := by
  obtain ⟨δ, st, B, F, d, st', R, ea, q⟩ := q
  obtain ⟨x, s1, e1, eb⟩ := mb_some ea
  obtain ⟨y, s2, e2, ec⟩ := mb_some eb
  obtain ⟨z, s3, e3, ed⟩ := mb_some ec
  obtain ⟨m3, rfl⟩ := ml_some e3
  obtain ⟨c, s4, e4, e⟩ := mb_some ed
  obtain ⟨rfl, rfl⟩ := asB_some e4
  refine ⟨δ, st, B, F, x, s1, R, e1, fun v H1 B1 l1 R1 w1 => ⟨δ, s1, B1, F, y, _, R1, e2, fun u H2 B2 l2 R2 w2 =>
    ⟨B2, x, y, _, R2.sub, (w1.mono l2).wk R2, w2.wk R2, m3, fun z H3 B3 g3 r3 => ?_⟩⟩⟩
  cases r3
  refine ⟨c, rfl, ?_⟩
  have R3 := R2.grow g3
  by_cases hc : c = true
  · rw [if_pos hc] at e ⊢
    obtain ⟨w, s5, e5, e⟩ := mb_some e
    obtain ⟨e6, rfl⟩ := ml_some e
    exact ⟨δ, _, B3, F, w, _, R3, e5, fun w' H4 B4 l4 R4 w4 => ⟨B4, y, w, d, R4.sub, (w2.mono (g3.leB.trans l4)).wk R4, w4.wk R4, e6, fun z H5 B5 g5 r5 => q z H5 B5 (l1.trans (l2.trans (g3.leB.trans (l4.trans g5.leB)))) (R4.grow g5) r5⟩⟩
  · rw [if_neg hc] at e ⊢
    obtain ⟨rfl, rfl⟩ := mp_some e
    exact q _ H3 B3 (l1.trans (l2.trans g3.leB)) R3 (.bl false)
theorem ech {op op' : CmpOp} {h h' : D → D → Option D} (ho : OpR X (compareOp op) (r2 h)) (ho' : OpR X (compareOp op') (r2 h')) (ha : PE X a (tW os f)) (hb : PE X b (tW os g)) (hc : PE X c (tW os k))
    (hm : lastMarks [op, op'] [b, c] = false := by with_unfolding_all rfl) : PE X (.Compare a [op, op'] [b, c] pos) (tS os (fCh h h' f g k)) := (pe_chain ho ho' ha hb hc hm).wk fun σ H Q q => rdCh q
theorem tch {op op' : CmpOp} {h h' : D → D → Option D} (ho : OpR X (compareOp op) (r2 h)) (ho' : OpR X (compareOp op') (r2 h')) (ha : PE X a (tW os f)) (hb : PE X b (tW os g)) (hc : PE X c (tW os k))
    (hm : lastMarks [op, op'] [b, c] = false := by with_unfolding_all rfl) : PT X (.Compare a [op, op'] [b, c] pos) (tT os (fB (fCh h h' f g k))) := (pt_chain ho ho' ha hb hc hm).wk fun σ H Q q => rdB (t := tChain (r2 h) (r2 h') (tW os f) (tW os g) (tW os k)) (fun _ _ _ x => rdCh x) q
variable {t u : Fx Bool}
def fNot (t : Fx Bool) : Fx Bool := fun δ => mb (t δ) fun c => mp !c
theorem tnot (ha : PT X a (tT os t)) : PT X (.UnaryOp .Not a pos) (tT os (fNot t)) := (pt_not ha).wk fun σ H Q ⟨δ, st, B, F, d, st', R, e, q⟩ => by
  obtain ⟨c, s1, e1, e⟩ := mb_some e
  obtain ⟨rfl, rfl⟩ := mp_some e
  exact ⟨δ, st, B, F, c, _, R, e1, q⟩
def fAnd (t u : Fx Bool) : Fx Bool := fun δ => mb (t δ) fun c => if c = true then u δ else mp false
def fOr (t u : Fx Bool) : Fx Bool := fun δ => mb (t δ) fun c => if c = true then mp true else u δ
theorem wand1 (ha : PT X a (tT os t)) : PW X (.BoolOp .And [a] pos) (tT os t) := pw_and1 ha
theorem wor1 (ha : PT X a (tT os t)) : PW X (.BoolOp .Or [a] pos) (tT os t) := pw_or1 ha
theorem wand (ha : PT X a (tT os t)) (hb : PW X (.BoolOp .And (b :: rest) pos) (tT os u)) : PW X (.BoolOp .And (a :: b :: rest) pos) (tT os (fAnd t u)) := (pw_and ha hb).wk fun σ H Q ⟨δ, st, B, F, d, st', R, e, q⟩ => by
  obtain ⟨c, s1, e1, e⟩ := mb_some e
  refine ⟨δ, st, B, F, c, _, R, e1, fun H1 B1 l1 R1 => ?_⟩
  by_cases hc : c = true
  · rw [if_pos hc] at e ⊢
    exact ⟨δ, _, B1, F, d, _, R1, e, fun H2 B2 l2 R2 => q H2 B2 (l1.trans l2) R2⟩
  · rw [if_neg hc] at e ⊢
    obtain ⟨rfl, rfl⟩ := mp_some e
    exact q H1 B1 l1 R1
theorem wor (ha : PT X a (tT os t)) (hb : PW X (.BoolOp .Or (b :: rest) pos) (tT os u)) : PW X (.BoolOp .Or (a :: b :: rest) pos) (tT os (fOr t u)) := (pw_or ha hb).wk fun σ H Q ⟨δ, st, B, F, d, st', R, e, q⟩ => by
  obtain ⟨c, s1, e1, e⟩ := mb_some e
  refine ⟨δ, st, B, F, c, _, R, e1, fun H1 B1 l1 R1 => ?_⟩
  by_cases hc : c = true
  · rw [if_pos hc] at e ⊢
    obtain ⟨rfl, rfl⟩ := mp_some e
    exact q H1 B1 l1 R1
  · rw [if_neg hc] at e ⊢
    exact ⟨δ, _, B1, F, d, _, R1, e, fun H2 B2 l2 R2 => q H2 B2 (l1.trans l2) R2⟩
/-! as values -/
def vNot (f : Fx D) : Fx D := fun δ => mb (f δ) fun x => mb (asB x) fun c => mp (.bool !c)
def vAnd (f g : Fx D) : Fx D := fun δ => mb (f δ) fun x => mb (asB x) fun c => if c = true then g δ else mp (.bool false)
def vOr (f g : Fx D) : Fx D := fun δ => mb (f δ) fun x => mb (asB x) fun c => if c = true then mp (.bool true) else g δ
theorem enot (ha : PE X a (tS os f)) : PE X (.UnaryOp .Not a pos) (tS os (vNot f)) := (pe_not ha).wk fun σ H Q ⟨δ, st, B, F, d, st', R, ea, q⟩ => by
  obtain ⟨x, s1, e1, eb⟩ := mb_some ea
  obtain ⟨c, s2, e2, e⟩ := mb_some eb
  obtain ⟨rfl, rfl⟩ := asB_some e2
  obtain ⟨rfl, rfl⟩ := mp_some e
  refine ⟨δ, st, B, F, _, _, R, e1, fun v H1 B1 l1 R1 w1 => ?_⟩
  cases w1
  exact ⟨c, rfl, q _ H1 B1 l1 R1 (.bl _)⟩
theorem eone {op} (ha : PE X a (tS os f)) : PE X (.BoolOp op [a] pos) (tS os f) := pe_one ha
theorem eand (ha : PE X a (tS os f)) (hb : PE X (.BoolOp .And (b :: rest) pos) (tS os g)) : PE X (.BoolOp .And (a :: b :: rest) pos) (tS os (vAnd f g)) := (pe_and ha hb).wk fun σ H Q ⟨δ, st, B, F, d, st', R, ea, q⟩ => by
  obtain ⟨x, s1, e1, eb⟩ := mb_some ea
  obtain ⟨c, s2, e2, e⟩ := mb_some eb
  obtain ⟨rfl, rfl⟩ := asB_some e2
  refine ⟨δ, st, B, F, _, _, R, e1, fun v H1 B1 l1 R1 w1 => ?_⟩
  cases w1
  refine ⟨c, rfl, ?_⟩
  by_cases hc : c = true
  · rw [if_pos hc] at e ⊢
    exact ⟨δ, _, B1, F, d, _, R1, e, fun v H2 B2 l2 R2 => q v H2 B2 (l1.trans l2) R2⟩
  · rw [if_neg hc] at e ⊢
    obtain ⟨rfl, rfl⟩ := mp_some e
    exact q _ H1 B1 l1 R1 (.bl _)
theorem eor (ha : PE X a (tS os f)) (hb : PE X (.BoolOp .Or (b :: rest) pos) (tS os g)) : PE X (.BoolOp .Or (a :: b :: rest) pos) (tS os (vOr f g)) := (pe_or ha hb).wk fun σ H Q ⟨δ, st, B, F, d, st', R, ea, q⟩ => by
  obtain ⟨x, s1, e1, eb⟩ := mb_some ea
  obtain ⟨c, s2, e2, e⟩ := mb_some eb
  obtain ⟨rfl, rfl⟩ := asB_some e2
  refine ⟨δ, st, B, F, _, _, R, e1, fun v H1 B1 l1 R1 w1 => ?_⟩
  cases w1
  refine ⟨c, rfl, ?_⟩
  by_cases hc : c = true
  · rw [if_pos hc] at e ⊢
    obtain ⟨rfl, rfl⟩ := mp_some e
    exact q _ H1 B1 l1 R1 (.bl _)
  · rw [if_neg hc] at e ⊢
    exact ⟨δ, _, B1, F, d, _, R1, e, fun v H2 B2 l2 R2 => q v H2 B2 (l1.trans l2) R2⟩
def fIf {α : Type} (t : Fx Bool) (f g : Fx α) : Fx α := fun δ => mb (t δ) fun c => if c = true then f δ else g δ
theorem eif (hc : PT X c (tT os t)) (ha : PE X a (tS os f)) (hb : PE X b (tS os g)) : PE X (.IfExp c a b pos) (tS os (fIf t f g)) := (pe_ifExp hc ha hb).wk fun σ H Q ⟨δ, st, B, F, d, st', R, e, q⟩ => by
  obtain ⟨c, s1, e1, e⟩ := mb_some e
  refine ⟨δ, st, B, F, c, _, R, e1, fun H1 B1 l1 R1 => ?_⟩
  by_cases hc : c = true
  · rw [if_pos hc] at e ⊢
    exact ⟨δ, _, B1, F, d, _, R1, e, fun v H2 B2 l2 R2 => q v H2 B2 (l1.trans l2) R2⟩
  · rw [if_neg hc] at e ⊢
    exact ⟨δ, _, B1, F, d, _, R1, e, fun v H2 B2 l2 R2 => q v H2 B2 (l1.trans l2) R2⟩
end

/-! ### slots are stored -/
section
variable {os : Option (Addr × Addr)} {δ : List Slot} {st : Src} {σ : St} {H B F : Hp}
theorem set_get {α : Type} {l : List α} {i j : Nat} {a x : α} (h : (l.set i a)[j]? = some x) : (i = j ∧ x = a) ∨ (i ≠ j ∧ l[j]? = some x) := by
  by_cases e : i = j
  · subst e
    left
    refine ⟨rfl, ?_⟩
    by_cases hl : i < l.length
    · rw [List.getElem?_set_self hl] at h; exact (Option.some.inj h).symm
    · rw [List.getElem?_eq_none (by simpa using hl)] at h; cases h
  · right
    rw [List.getElem?_set_ne e] at h
    exact ⟨e, h⟩
theorem lt_of_get {α : Type} {l : List α} {i : Nat} {x : α} (h : l[i]? = some x) : i < l.length := (List.getElem?_eq_some_iff.mp h).1
theorem Rel.set (R : Rel os δ st σ H B F) (i : Nat) {v : V} {d : D} (r : Rp B v d) : Rel os (δ.set i (.val d)) st (σ.set i (some v)) H B F where
  sub := R.sub
  frm := R.frm
  dsj := R.dsj
  val := fun j d' e => by
    have hl := lt_of_get e
    rw [List.length_set, R.len] at hl
    rcases set_get e with ⟨rfl, e'⟩ | ⟨ne, e'⟩
    · cases e'
      exact ⟨v, List.getElem?_set_self hl, r⟩
    · rw [List.getElem?_set_ne ne]; exact R.val j d' e'
  own := fun j d' e => by
    rcases set_get e with ⟨rfl, e'⟩ | ⟨ne, e'⟩
    · cases e'
    · rw [List.getElem?_set_ne ne]; exact R.own j d' e'
  dis := fun j k d1 d2 p e1 e2 e3 e4 => by
    rcases set_get e1 with ⟨rfl, e1'⟩ | ⟨ne, e1'⟩
    · cases e1'
    · rcases set_get e2 with ⟨rfl, e2'⟩ | ⟨ne2, e2'⟩
      · cases e2'
      · rw [List.getElem?_set_ne ne] at e3
        rw [List.getElem?_set_ne ne2] at e4
        exact R.dis j k d1 d2 p e1' e2' e3 e4
  src := fun j e => by
    rcases set_get e with ⟨rfl, e'⟩ | ⟨ne, e'⟩
    · cases e'
    · rw [List.getElem?_set_ne ne]; exact R.src j e'
  sat := R.sat
  len := by rw [List.length_set, List.length_set, R.len]
theorem Rel.setOwn (R : Rel os δ st σ H B F) (i : Nat) {p : Addr} {d : D} (n : New os δ σ B F p) (o : OwnRp B H p d) : Rel os (δ.set i (.own d)) st (σ.set i (some (.ref p))) H B F where
  sub := R.sub
  frm := R.frm
  dsj := R.dsj
  val := fun j d' e => by
    rcases set_get e with ⟨rfl, e'⟩ | ⟨ne, e'⟩
    · cases e'
    · rw [List.getElem?_set_ne ne]; exact R.val j d' e'
  own := fun j d' e => by
    have hl := lt_of_get e
    rw [List.length_set, R.len] at hl
    rcases set_get e with ⟨rfl, e'⟩ | ⟨ne, e'⟩
    · cases e'
      exact ⟨p, List.getElem?_set_self hl, o, n.b, n.f, n.s⟩
    · rw [List.getElem?_set_ne ne]; exact R.own j d' e'
  dis := fun j k d1 d2 q e1 e2 e3 e4 => by
    have hl1 := lt_of_get e1
    have hl2 := lt_of_get e2
    rw [List.length_set, R.len] at hl1 hl2
    rcases set_get e1 with ⟨rfl, e1'⟩ | ⟨ne, e1'⟩
    · rcases set_get e2 with ⟨e, _⟩ | ⟨ne2, e2'⟩
      · exact e
      · rw [List.getElem?_set_self hl1] at e3
        rw [List.getElem?_set_ne ne2] at e4
        cases e3
        exact absurd e4 (n.o k d2 e2')
    · rcases set_get e2 with ⟨rfl, e2'⟩ | ⟨ne2, e2'⟩
      · rw [List.getElem?_set_self hl2] at e4
        rw [List.getElem?_set_ne ne] at e3
        cases e4
        exact absurd e3 (n.o j d1 e1')
      · rw [List.getElem?_set_ne ne] at e3
        rw [List.getElem?_set_ne ne2] at e4
        exact R.dis j k d1 d2 q e1' e2' e3 e4
  src := fun j e => by
    rcases set_get e with ⟨rfl, e'⟩ | ⟨ne, e'⟩
    · cases e'
    · rw [List.getElem?_set_ne ne]; exact R.src j e'
  sat := R.sat
  len := by rw [List.length_set, List.length_set, R.len]
/-- the owned thing of slot i, written -/
theorem Rel.write (R : Rel os δ st σ H B F) {i : Nat} {p : Addr} {d d' : D} {o : HO} (e : δ[i]? = some (.own d)) (es : σ[i]? = some (some (.ref p))) (n : OwnRp B (upd H p o) p d') : Rel os (δ.set i (.own d')) st σ (upd H p o) B F := by
  obtain ⟨p', e1, o1, b1, f1, s1⟩ := R.own i d e
  rw [es] at e1
  cases e1
  have ne : ∀ a, B a ≠ none ∨ F a ≠ none → a ≠ p := fun a h z => by
    rcases h with h | h
    · exact h (z ▸ b1)
    · exact h (z ▸ f1)
  refine ⟨fun a x q => ?_, fun a x q => ?_, R.dsj, fun j d1 q => ?_, fun j d1 q => ?_, fun j k d1 d2 q q1 q2 q3 q4 => ?_, fun j q => ?_, fun S L q => ?_, by rw [List.length_set]; exact R.len⟩
  · rw [upd_ne (ne a (.inl (by rw [q]; exact fun z => nomatch z)))]; exact R.sub a x q
  · rw [upd_ne (ne a (.inr (by rw [q]; exact fun z => nomatch z)))]; exact R.frm a x q
  · rcases set_get q with ⟨rfl, q'⟩ | ⟨hn, q'⟩
    · cases q'
    · exact R.val j d1 q'
  · rcases set_get q with ⟨rfl, q'⟩ | ⟨hn, q'⟩
    · cases q'
      exact ⟨p, es, n, b1, f1, s1⟩
    · obtain ⟨p2, e2, o2, b2, f2, s2⟩ := R.own j d1 q'
      have hp : p2 ≠ p := fun z => hn (R.dis i j d d1 p e q' es (z ▸ e2))
      exact ⟨p2, e2, o2.at fun x hx => (upd_ne hp).trans hx, b2, f2, s2⟩
  · have w : ∀ (m : Nat) (x : D), (δ.set i (.own d'))[m]? = some (.own x) → ∃ y, δ[m]? = some (.own y) := fun m x hq => by
      rcases set_get hq with ⟨rfl, hq'⟩ | ⟨hn, hq'⟩
      · exact ⟨d, e⟩
      · exact ⟨x, hq'⟩
    obtain ⟨y1, w1⟩ := w j d1 q1
    obtain ⟨y2, w2⟩ := w k d2 q2
    exact R.dis j k y1 y2 q w1 w2 q3 q4
  · rcases set_get q with ⟨rfl, q'⟩ | ⟨hn, q'⟩
    · cases q'
    · exact R.src j q'
  · obtain ⟨s, b2, b3, f2, f3⟩ := R.sat S L q
    obtain ⟨h1, h2⟩ := s1 S L q
    exact ⟨⟨(upd_ne (Ne.symm h1)).trans s.1, (upd_ne (Ne.symm h2)).trans s.2⟩, b2, b3, f2, f3⟩
/-- a thing put aside into the frame -/
theorem Rel.aside (R : Rel os δ st σ H B F) {p : Addr} {o : HO} (n : New os δ σ B F p) (e : H p = some o) : Rel os δ st σ H B (upd F p o) := by
  refine ⟨R.sub, fun a x q => ?_, fun a x q => ?_, R.val, fun i d q => ?_, R.dis, R.src, fun S L q => ?_, R.len⟩
  · by_cases ha : a = p
    · subst ha; rw [upd_same] at q; cases q; exact e
    · rw [upd_ne ha] at q; exact R.frm a x q
  · by_cases ha : a = p
    · subst ha; exact .inl n.b
    · rw [upd_ne ha] at q; exact R.dsj a x q
  · obtain ⟨p', e1, o1, b1, f1, s1⟩ := R.own i d q
    refine ⟨p', e1, o1, b1, ?_, s1⟩
    rw [upd_ne (fun z => n.o i d q (by rw [e1, z]))]
    exact f1
  · obtain ⟨s, b1, b2, f1, f2⟩ := R.sat S L q
    obtain ⟨h1, h2⟩ := n.s S L q
    exact ⟨s, b1, b2, (upd_ne (Ne.symm h1)).trans f1, (upd_ne (Ne.symm h2)).trans f2⟩
/-- and taken back -/
theorem Rel.back (R : Rel os δ st σ H B (upd F p o)) (hf : F p = none) (ht : ¬ TupO o := by rintro ⟨_, z⟩; cases z) : Rel os δ st σ H B F ∧ New os δ σ B F p ∧ H p = some o := by
  have up : (upd F p o) p = some o := upd_same
  have sF : Same F (upd F p o) := same_upd hf
  refine ⟨⟨R.sub, sF.trans R.frm, fun a x q => R.dsj a x (sF a x q), R.val, fun i d q => ?_, R.dis, R.src, fun S L q => ?_, R.len⟩, ⟨(R.dsj p o up).resolve_right ht, hf, fun i d q z => ?_, fun S L q => ⟨fun z => ?_, fun z => ?_⟩⟩, R.frm p o up⟩
  · obtain ⟨p', e1, o1, b1, f1, s1⟩ := R.own i d q
    exact ⟨p', e1, o1, b1, sF.free f1, s1⟩
  · obtain ⟨s, b1, b2, f1, f2⟩ := R.sat S L q
    exact ⟨s, b1, b2, sF.free f1, sF.free f2⟩
  · obtain ⟨p', e1, o1, b1, f1, s1⟩ := R.own i d q
    rw [z] at e1
    cases e1
    rw [up] at f1
    cases f1
  · obtain ⟨s, b1, b2, f1, f2⟩ := R.sat S L q
    rw [← z, up] at f1
    cases f1
  · obtain ⟨s, b1, b2, f1, f2⟩ := R.sat S L q
    rw [← z, up] at f2
    cases f2
end

/-! ### statements -/
section
variable {X : Cx} {e a b c : Expr} {es rest : List Expr} {os : Option (Addr × Addr)} {f g k : Fx D} {t u : Fx Bool} {pos : Pos} {st : Stmt} {sts : List Stmt} {p q : Fx Flow}
theorem FlowTo.mono {F B B' : Hp} {E : Ends} {s : Src} (h : Same B B') {fl : Flow} (x : FlowTo os F B E s fl) : FlowTo os F B' E s fl := by
  cases fl with
  | nx δ => exact fun σ' H' B2 l R => x σ' H' B2 (h.trans l) R
  | rt d => exact fun v H' B2 l R r => x v H' B2 (h.trans l) R r
  | bk δ => exact fun σ' H' B2 l R => x σ' H' B2 (h.trans l) R
  | ct δ => exact fun σ' H' B2 l R => x σ' H' B2 (h.trans l) R
/-- x = e -/
def sSet (i : Nat) (f : Fx D) : Fx Flow := fun δ => mb (f δ) fun d => mp (.nx (δ.set i (.val d)))
def sOwn (i : Nat) (f : Fx D) : Fx Flow := fun δ => mb (f δ) fun d => mp (.nx (δ.set i (.own d)))
theorem sset {te : TE} {i : Nat} (h : PS X st (tAsg te (gName i))) (hf : ∀ σ H Q, tS os f σ H Q → te σ H Q := by intro _ _ _ q; exact q) : PS X st (tB os (sSet i f)) := h.wk fun E σ H ⟨δ, st, B, F, fl, st', R, e, q⟩ => by
  obtain ⟨d, s1, e1, e⟩ := mb_some e
  obtain ⟨rfl, rfl⟩ := mp_some e
  exact hf _ _ _ ⟨δ, st, B, F, d, _, R, e1, fun v H1 B1 l1 R1 r1 => q _ H1 B1 l1 (R1.set i r1)⟩
theorem sown {te : TE} {i : Nat} (h : PS X st (tAsg te (gName i))) (hf : ∀ σ H Q, tF os f σ H Q → te σ H Q := by intro _ _ _ q; exact q) : PS X st (tB os (sOwn i f)) := h.wk fun E σ H ⟨δ, st, B, F, fl, st', R, e, q⟩ => by
  obtain ⟨d, s1, e1, e⟩ := mb_some e
  obtain ⟨rfl, rfl⟩ := mp_some e
  exact hf _ _ _ ⟨δ, st, B, F, d, _, R, e1, fun p H1 B1 l1 R1 o1 n1 => q _ H1 B1 l1 (R1.setOwn i n1 o1)⟩
/-- targets: the slots stored, what is stored -/
def tG (os : Option (Addr × Addr)) (is : List Nat) (g : D → List Slot → Option (List Slot)) : TG := fun v σ H Q => ∃ δ st B F d δ', Rel os δ st σ H B F ∧ Rp B v d ∧ g d δ = some δ' ∧
  ∀ σ' H' B', Same B B' → Rel os δ' st σ' H' B' F → (σ'.length = σ.length ∧ ∀ j, j ∉ is → σ'[j]? = σ[j]?) → Q σ' H'
def tGA (os : Option (Addr × Addr)) (is : List Nat) (g : List D → List Slot → Option (List Slot)) : TGs := fun vs σ H Q => ∃ δ st B F ds δ', Rel os δ st σ H B F ∧ RpA B vs ds ∧ g ds δ = some δ' ∧
  ∀ σ' H' B', Same B B' → Rel os δ' st σ' H' B' F → (σ'.length = σ.length ∧ ∀ j, j ∉ is → σ'[j]? = σ[j]?) → Q σ' H'
theorem _root_.L2.PG.wk {tg : Expr} {t t' : TG} (h : PG X tg t) (hh : ∀ v σ H Q, t' v σ H Q → t v σ H Q) : PG X tg t' := ⟨fun pins s σ H v u Q I r q => h.run pins s σ H v u Q I r (hh v σ H Q q)⟩
theorem _root_.L2.PGs.wk {tg : List Expr} {t t' : TGs} (h : PGs X tg t) (hh : ∀ v σ H Q, t' v σ H Q → t v σ H Q) : PGs X tg t' := ⟨fun pins s σ H v u Q I r q => h.run pins s σ H v u Q I r (hh v σ H Q q)⟩
def gSet (i : Nat) : D → List Slot → Option (List Slot) := fun d δ => some (δ.set i (.val d))
theorem gnm {i : Nat} {x : Expr} (h : PG X x (gName i)) : PG X x (tG os [i] (gSet i)) := h.wk fun v σ H Q ⟨δ, st, B, F, d, δ', R, r, e, q⟩ => by
  cases e
  exact q _ H B (.refl _) (R.set i r) ⟨List.length_set, fun j hj => List.getElem?_set_ne (fun z => hj (by simp [z]))⟩
/-- only the slots of is are stored -/
class Gok (is : outParam (List Nat)) (g : D → List Slot → Option (List Slot)) : Prop where
  at_ : ∀ d δ δ', g d δ = some δ' → δ'.length = δ.length ∧ ∀ j, j ∉ is → δ'[j]? = δ[j]?
class GokA (is : outParam (List Nat)) (g : List D → List Slot → Option (List Slot)) : Prop where
  at_ : ∀ d δ δ', g d δ = some δ' → δ'.length = δ.length ∧ ∀ j, j ∉ is → δ'[j]? = δ[j]?
instance (i : Nat) : Gok [i] (gSet i) := ⟨fun d δ δ' e => by
  cases e
  exact ⟨List.length_set, fun j hj => List.getElem?_set_ne (fun z => hj (by simp [z]))⟩⟩
def gAN : List D → List Slot → Option (List Slot)
  | [], δ => some δ
  | _ :: _, _ => none
def gAC (g : D → List Slot → Option (List Slot)) (r : List D → List Slot → Option (List Slot)) : List D → List Slot → Option (List Slot)
  | [], _ => none
  | d :: ds, δ => (g d δ).bind (r ds)
instance : GokA [] gAN := ⟨fun d δ δ' e => by
  cases d with
  | nil => cases e; exact ⟨rfl, fun _ _ => rfl⟩
  | cons a r => cases e⟩
instance {is js : List Nat} {g : D → List Slot → Option (List Slot)} {r : List D → List Slot → Option (List Slot)} [G : Gok is g] [R : GokA js r] : GokA (is ++ js) (gAC g r) := ⟨fun ds δ δ' e => by
  cases ds with
  | nil => cases e
  | cons d ds =>
    obtain ⟨δ1, e1, e2⟩ := Option.bind_eq_some_iff.mp e
    obtain ⟨a1, a2⟩ := G.at_ _ _ _ e1
    obtain ⟨b1, b2⟩ := R.at_ _ _ _ e2
    refine ⟨b1.trans a1, fun j hj => ?_⟩
    rw [List.mem_append] at hj
    exact (b2 j fun z => hj (.inr z)).trans (a2 j fun z => hj (.inl z))⟩
theorem gnil : PGs X [] (tGA os [] gAN) := pgs_nil.wk fun vs σ H Q ⟨δ, st, B, F, ds, δ', R, r, e, q⟩ => by
  cases r with
  | nil => cases e; exact ⟨rfl, q σ H B (.refl _) R ⟨rfl, fun _ _ => rfl⟩⟩
  | cons a b => cases e
theorem gcons {e : Expr} {es : List Expr} {is js : List Nat} {g : D → List Slot → Option (List Slot)} {r : List D → List Slot → Option (List Slot)} (h1 : PG X e (tG os is g)) (h2 : PGs X es (tGA os js r))
    (hs : (assignEach (e :: es) X.env).map (·.2) = assign e X.env :: (assignEach es X.env).map (·.2) := by rfl) : PGs X (e :: es) (tGA os (is ++ js) (gAC g r)) := (pgs_cons h1 h2 hs).wk fun vs σ H Q ⟨δ, st, B, F, ds, δ', R, rr, ee, q⟩ => by
  cases rr with
  | nil => cases ee
  | cons ra rb =>
    obtain ⟨δ1, e1, e2⟩ := Option.bind_eq_some_iff.mp ee
    refine ⟨_, _, rfl, δ, st, B, F, _, δ1, R, ra, e1, fun σ1 H1 B1 l1 R1 k1 => ⟨δ1, st, B1, F, _, δ', R1, rb.mono l1, e2, fun σ2 H2 B2 l2 R2 k2 => q σ2 H2 B2 (l1.trans l2) R2 ⟨k2.1.trans k1.1, fun j hj => ?_⟩⟩⟩
    rw [List.mem_append] at hj
    exact (k2.2 j fun z => hj (.inr z)).trans (k1.2 j fun z => hj (.inl z))
def gTp (n : Nat) (g : List D → List Slot → Option (List Slot)) (d : D) (δ : List Slot) : Option (List Slot) := match d with
  | .tuple ds => if ds.length = n then g ds δ else none
  | _ => none
instance {is : List Nat} {n : Nat} {g : List D → List Slot → Option (List Slot)} [G : GokA is g] : Gok is (gTp n g) := ⟨fun d δ δ' e => by
  cases d with
  | tuple ds =>
    have e' : (if ds.length = n then g ds δ else none) = some δ' := e
    by_cases hl : ds.length = n
    · rw [if_pos hl] at e'
      exact G.at_ _ _ _ e'
    · rw [if_neg hl] at e'
      cases e'
  | _ => cases e⟩
theorem gtup {es : List Expr} {k : Nat} {is : List Nat} {n : Nat} {g : List D → List Slot → Option (List Slot)} (hc : X.calm = true) (h : PGs X es (tGA os is g))
    (hn : (assignEach es X.env).length = n := by rfl) (hst : (assignEach es X.env).findIdx? (·.1) = none := by rfl) : PG X (.Tuple es k pos) (tG os is (gTp n g)) := (pg_tup hc h hn hst).wk fun v σ H Q ⟨δ, st, B, F, d, δ', R, r, e, q⟩ => by
  cases r with
  | @tup a xs ds ea ra =>
    have e' : (if ds.length = n then g ds δ else none) = some δ' := e
    by_cases hl : ds.length = n
    · rw [if_pos hl] at e'
      exact ⟨_, _, rfl, (ea.mono R.sub).sq, by rw [ra.length]; exact hl, δ, st, B, F, _, δ', R, ra, e', q⟩
    · rw [if_neg hl] at e'
      cases e'
  | _ => cases e
/-- target = e -/
def sTo (g : D → List Slot → Option (List Slot)) (f : Fx D) : Fx Flow := fun δ => mb (f δ) fun d => mb (ml (g d δ)) fun δ' => mp (.nx δ')
theorem sto {te : TE} {is : List Nat} {g : D → List Slot → Option (List Slot)} (h : PS X st (tAsg te (tG os is g))) (hf : ∀ σ H Q, tS os f σ H Q → te σ H Q := by intro _ _ _ q; exact q) : PS X st (tB os (sTo g f)) := h.wk fun E σ H ⟨δ, st, B, F, fl, st', R, e, q⟩ => by
  obtain ⟨d, s1, e1, eb⟩ := mb_some e
  obtain ⟨δ', s2, e2, ec⟩ := mb_some eb
  obtain ⟨m2, rfl⟩ := ml_some e2
  obtain ⟨rfl, rfl⟩ := mp_some ec
  exact hf _ _ _ ⟨δ, st, B, F, d, _, R, e1, fun v H1 B1 l1 R1 r1 => ⟨δ, _, B1, F, d, δ', R1, r1, m2, fun σ2 H2 B2 l2 R2 _ => q σ2 H2 B2 (l1.trans l2) R2⟩⟩
/-- a, b = e1, e2: each kept as a value, or owned -/
inductive Knd where
  | v | o
def tK (os : Option (Addr × Addr)) : Knd → Fx D → TE
  | .v, f => tS os f
  | .o, f => tF os f
def slotK : Knd → D → Slot
  | .v, d => .val d
  | .o, d => .own d
def sPar (i j : Nat) (k1 k2 : Knd) (f g : Fx D) : Fx Flow := fun δ => mb (f δ) fun x => mb (g δ) fun y => mp (.nx ((δ.set i (slotK k1 x)).set j (slotK k2 y)))
theorem spar {ta tb : TE} {i j : Nat} {k1 k2 : Knd} (h : PS X st (tPar i j (tCons ta (tCons tb tNil)))) (ha : ∀ σ H Q, tK os k1 f σ H Q → ta σ H Q := by intro _ _ _ q; exact q) (hb : ∀ σ H Q, tK os k2 g σ H Q → tb σ H Q := by intro _ _ _ q; exact q) :
    PS X st (tB os (sPar i j k1 k2 f g)) := h.wk fun E σ H ⟨δ, st, B, F, fl, st', R, e, q⟩ => by
  obtain ⟨x, s1, e1, e⟩ := mb_some e
  obtain ⟨y, s2, e2, e⟩ := mb_some e
  obtain ⟨rfl, rfl⟩ := mp_some e
  cases k1 with
  | v =>
    refine ha _ _ _ ⟨δ, st, B, F, x, s1, R, e1, fun v H1 B1 l1 R1 r1 => ?_⟩
    cases k2 with
    | v => exact hb _ _ _ ⟨δ, s1, B1, F, y, _, R1, e2, fun w H2 B2 l2 R2 r2 => ⟨v, w, rfl, q _ H2 B2 (l1.trans l2) ((R2.set i (r1.mono l2)).set j r2)⟩⟩
    | o => exact hb _ _ _ ⟨δ, s1, B1, F, y, _, R1, e2, fun p H2 B2 l2 R2 o2 n2 => ⟨v, .ref p, rfl, q _ H2 B2 (l1.trans l2) ((R2.set i (r1.mono l2)).setOwn j ⟨n2.b, n2.f, fun m d em z => by
        rcases set_get em with ⟨_, em⟩ | ⟨ne, em⟩
        · cases em
        · rw [List.getElem?_set_ne ne] at z
          exact n2.o m d em z, n2.s⟩ o2)⟩⟩
  | o =>
    refine ha _ _ _ ⟨δ, st, B, F, x, s1, R, e1, fun p H1 B1 l1 R1 o1 n1 => ?_⟩
    obtain ⟨ob, hob⟩ := o1.there
    have R1' := R1.aside n1 hob
    cases k2 with
    | v => exact hb _ _ _ ⟨δ, s1, B1, _, y, _, R1', e2, fun w H2 B2 l2 R2 r2 => by
        obtain ⟨R3, n3, h3⟩ := R2.back n1.f (o1.nt hob)
        have o3 : OwnRp B2 H2 p x := (o1.mono l2 (.refl _)).at fun z hz => by rw [hob] at hz; cases hz; exact h3
        exact ⟨.ref p, w, rfl, q _ H2 B2 (l1.trans l2) ((R3.setOwn i n3 o3).set j r2)⟩⟩
    | o => exact hb _ _ _ ⟨δ, s1, B1, _, y, _, R1', e2, fun p2 H2 B2 l2 R2 o2 n2 => by
        obtain ⟨R3, n3, h3⟩ := R2.back n1.f (o1.nt hob)
        have o3 : OwnRp B2 H2 p x := (o1.mono l2 (.refl _)).at fun z hz => by rw [hob] at hz; cases hz; exact h3
        have ne : p2 ≠ p := fun z => by
          have := n2.f
          rw [z, upd_same] at this
          cases this
        refine ⟨.ref p, .ref p2, rfl, q _ H2 B2 (l1.trans l2) ((R3.setOwn i n3 o3).setOwn j ⟨n2.b, ?_, fun m d em z => ?_, n2.s⟩ o2)⟩
        · have := n2.f
          rw [upd_ne ne] at this
          exact this
        · rcases set_get em with ⟨rfl, em⟩ | ⟨hne, em⟩
          · rcases set_get z with ⟨_, z⟩ | ⟨hz, _⟩
            · cases z; exact ne rfl
            · exact hz rfl
          · rw [List.getElem?_set_ne hne] at z
            exact n2.o m d em z⟩
/-- return e -/
def sRet (f : Fx D) : Fx Flow := fun δ => mb (f δ) fun d => mp (.rt d)
theorem sret (he : PE X e (tS os f)) : PS X (.Return (some e) pos) (tB os (sRet f)) := (ps_ret he).wk fun E σ H ⟨δ, st, B, F, fl, st', R, e, q⟩ => by
  obtain ⟨d, s1, e1, e⟩ := mb_some e
  obtain ⟨rfl, rfl⟩ := mp_some e
  exact ⟨δ, st, B, F, d, _, R, e1, fun v H1 B1 l1 R1 r1 => q v H1 B1 l1 R1.bare r1⟩
theorem sretw (he : PE X e (tW os f)) : PS X (.Return (some e) pos) (tB os (sRet f)) := (ps_ret he).wk fun E σ H ⟨δ, st, B, F, fl, st', R, e, q⟩ => by
  obtain ⟨d, s1, e1, e⟩ := mb_some e
  obtain ⟨rfl, rfl⟩ := mp_some e
  refine ⟨δ, st, B, F, d, _, R, e1, fun v H1 B1 l1 R1 w1 => ?_⟩
  rcases w1 with r1 | ⟨i, h1, h2⟩
  · exact q v H1 B1 l1 R1.bare r1
  · obtain ⟨p, h3, o, b, f, n⟩ := R1.own i d h1
    rw [h2] at h3
    cases h3
    obtain ⟨B2, l2, R2, r2⟩ := R1.bare.freeze (p := p) ⟨b, f, (fun i d z => by simp at z), n⟩ o
    exact q _ H1 B2 (l1.trans l2) R2 r2
theorem sretN : PS X (.Return none pos) (tB os fun _ => mp (.rt .none)) := ps_retN.wk fun E σ H ⟨δ, st, B, F, fl, st', R, e, q⟩ => by
  obtain ⟨rfl, rfl⟩ := mp_some e
  exact q .non H B (.refl _) R.bare .non
theorem sif {sa sb : List Stmt} (hc : PT X c (tT os t)) (ha : PSs X sa (tB os p)) (hb : PSs X sb (tB os q)) : PS X (.If c sa sb pos) (tB os (fIf t p q)) := (ps_if hc ha hb).wk fun E σ H ⟨δ, st, B, F, fl, st', R, e, qq⟩ => by
  obtain ⟨k, s1, e1, e⟩ := mb_some e
  refine ⟨δ, st, B, F, k, _, R, e1, fun H1 B1 l1 R1 => ?_⟩
  by_cases hk : k = true
  · rw [if_pos hk] at e ⊢
    exact ⟨δ, _, B1, F, fl, _, R1, e, qq.mono l1⟩
  · rw [if_neg hk] at e ⊢
    exact ⟨δ, _, B1, F, fl, _, R1, e, qq.mono l1⟩
def sDo (f : Fx D) : Fx Flow := fun δ => mb (f δ) fun _ => mp (.nx δ)
theorem sdo (he : PE X e (tS os f)) (hs : swapsWith e none pos.line X.env = pure false := by rfl) : PS X (.Expr e pos) (tB os (sDo f)) := (ps_expr he hs).wk fun E σ H ⟨δ, st, B, F, fl, st', R, e, q⟩ => by
  obtain ⟨d, s1, e1, e⟩ := mb_some e
  obtain ⟨rfl, rfl⟩ := mp_some e
  exact ⟨δ, st, B, F, d, _, R, e1, fun v H1 B1 l1 R1 _ => q σ H1 B1 l1 R1⟩
theorem spass : PS X (.Pass pos) (tB os fun δ => mp (.nx δ)) := ps_pass.wk fun E σ H ⟨δ, st, B, F, fl, st', R, e, q⟩ => by
  obtain ⟨rfl, rfl⟩ := mp_some e
  exact q σ H B (.refl _) R
theorem sbreak : PS X (.Break pos) (tB os fun δ => mp (.bk δ)) := ps_break.wk fun E σ H ⟨δ, st, B, F, fl, st', R, e, q⟩ => by
  obtain ⟨rfl, rfl⟩ := mp_some e
  exact q σ H B (.refl _) R
theorem scont : PS X (.Continue pos) (tB os fun δ => mp (.ct δ)) := ps_continue.wk fun E σ H ⟨δ, st, B, F, fl, st', R, e, q⟩ => by
  obtain ⟨rfl, rfl⟩ := mp_some e
  exact q σ H B (.refl _) R
/-- one after another -/
def thenF (q : Fx Flow) : Flow → M Flow
  | .nx δ => q δ
  | fl => mp fl
def fSeq (p q : Fx Flow) : Fx Flow := fun δ => mb (p δ) (thenF q)
theorem bnil : PSs X [] (tB os fun δ => mp (.nx δ)) := pss_nil.wk fun E σ H ⟨δ, st, B, F, fl, st', R, e, q⟩ => by
  obtain ⟨rfl, rfl⟩ := mp_some e
  exact q σ H B (.refl _) R
theorem bone (h1 : PS X st (tB os p)) : PSs X [st] (tB os p) := pss_one h1
theorem seq_to {F B : Hp} {E : Ends} {s1 s2 : Src} {fl fl2 : Flow} (e : thenF q fl s1 = some (fl2, s2)) (x : FlowTo os F B E s2 fl2) : FlowTo os F B { E with nx := tB os q E } s1 fl := by
  cases fl with
  | nx δ => exact fun σ' H' B' l R => ⟨δ, s1, B', F, fl2, s2, R, e, x.mono l⟩
  | rt d => cases e; exact x
  | bk d => cases e; exact x
  | ct d => cases e; exact x
theorem bcons (h1 : PS X st (tB os p)) (h2 : PSs X sts (tB os q)) : PSs X (st :: sts) (tB os (fSeq p q)) := (pss_cons h1 h2).wk fun E σ H ⟨δ, st, B, F, fl, st', R, e, x⟩ => by
  obtain ⟨fl1, s1, e1, e⟩ := mb_some e
  exact ⟨δ, st, B, F, fl1, s1, R, e1, seq_to e x⟩
/-- slot i's thing is a value from here on -/
def fFrz (i : Nat) (p : Fx Flow) : Fx Flow := fun δ => match δ[i]? with
  | some (.own d) => p (δ.set i (.val d))
  | _ => m0
theorem bfrz (i : Nat) (h : PSs X sts (tB os p)) : PSs X sts (tB os (fFrz i p)) := h.wk fun E σ H ⟨δ, st, B, F, fl, st', R, e, x⟩ => by
  unfold fFrz at e
  cases e1 : δ[i]? with
  | none => rw [e1] at e; cases e
  | some sl =>
    rw [e1] at e
    cases sl with
    | own d =>
      obtain ⟨p, h3, o, b, f, n⟩ := R.own i d e1
      have hlen : i < σ.length := lt_of_get h3
      have hs : σ.set i (some (.ref p)) = σ := by
        apply List.ext_getElem?
        intro j
        by_cases hj : i = j
        · subst hj; rw [List.getElem?_set_self hlen, h3]
        · rw [List.getElem?_set_ne hj]
      -- the slot is first emptied, then set to the frozen value
      have R0 : Rel os (δ.set i .nil) st σ H B F := by
        refine ⟨R.sub, R.frm, R.dsj, fun j d' q => ?_, fun j d' q => ?_, fun j k d1 d2 q q1 q2 q3 q4 => ?_, fun j q => ?_, R.sat, by rw [List.length_set]; exact R.len⟩
        · rcases set_get q with ⟨_, q⟩ | ⟨_, q⟩
          · cases q
          · exact R.val j d' q
        · rcases set_get q with ⟨_, q⟩ | ⟨_, q⟩
          · cases q
          · exact R.own j d' q
        · rcases set_get q1 with ⟨_, q1⟩ | ⟨_, q1⟩
          · cases q1
          · rcases set_get q2 with ⟨_, q2⟩ | ⟨_, q2⟩
            · cases q2
            · exact R.dis j k d1 d2 q q1 q2 q3 q4
        · rcases set_get q with ⟨_, q⟩ | ⟨_, q⟩
          · cases q
          · exact R.src j q
      obtain ⟨B2, l2, R2, r2⟩ := R0.freeze (p := p) ⟨b, f, (fun j d' q z => by
        rcases set_get q with ⟨_, q⟩ | ⟨hne, q⟩
        · cases q
        · exact hne (R.dis i j d d' p e1 q h3 z)), n⟩ o
      have R3 := R2.set i r2
      rw [hs, List.set_set] at R3
      exact ⟨_, st, B2, F, fl, st', R3, e, x.mono l2⟩
    | _ => cases e

/-! ### while -/
def whF (c : Fx Bool) (b : Fx Flow) : Nat → Fx Flow
  | 0, _ => m0
  | n + 1, δ => mb (c δ) fun k => if k = true then mb (b δ) fun fl => match fl with
      | .nx δ' => whF c b n δ'
      | .ct δ' => whF c b n δ'
      | .bk δ' => mp (.nx δ')
      | .rt d => mp (.rt d)
    else mp (.nx δ)
theorem swhile (n : Nat) {body : List Stmt} (hp : PassesOwn (model X.prog X.w) X.A X.env X.xe) (hc : PT X c (tT os t)) (hb : PSs X body (tB os p)) : PS X (.While c body [] pos) (tB os (whF t p n)) := (ps_while hp hc hb).wk fun E σ H ⟨δ, st, B, F, fl, st', R, e, x⟩ => by
  refine ⟨fun m σ H => ∃ δ st B fl st', Rel os δ st σ H B F ∧ whF t p m δ st = some (fl, st') ∧ FlowTo os F B E st' fl, ⟨n, δ, st, B, fl, st', R, e, x⟩, ?_⟩
  rintro m σ1 H1 ⟨δ1, s1, B1, fl1, s1', R1, e1, x1⟩
  cases m with
  | zero => cases e1
  | succ m =>
    unfold whF at e1
    obtain ⟨k, s2, e2, e3⟩ := mb_some e1
    refine ⟨δ1, s1, B1, F, k, s2, R1, e2, fun H2 B2 l2 R2 => ?_⟩
    by_cases hk : k = true
    · rw [if_pos hk] at e3 ⊢
      obtain ⟨fl2, s3, e4, e5⟩ := mb_some e3
      refine ⟨fun σ' H' => ∃ δ st B fl st', Rel os δ st σ' H' B F ∧ whF t p m δ st = some (fl, st') ∧ FlowTo os F B E st' fl, fun σ' H' h => ⟨m, Nat.lt_succ_self _, h⟩, δ1, s2, B2, F, fl2, s3, R2, e4, ?_⟩
      cases fl2 with
      | nx δ' => exact fun σ' H' B' l R' => ⟨δ', s3, B', fl1, s1', R', e5, x1.mono (l2.trans l)⟩
      | ct δ' => exact fun σ' H' B' l R' => ⟨δ', s3, B', fl1, s1', R', e5, x1.mono (l2.trans l)⟩
      | bk δ' =>
        obtain ⟨rfl, rfl⟩ := mp_some e5
        exact fun σ' H' B' l R' => x1 σ' H' B' (l2.trans l) R'
      | rt d =>
        obtain ⟨rfl, rfl⟩ := mp_some e5
        exact fun v H' B' l R' r => x1 v H' B' (l2.trans l) R' r
    · rw [if_neg hk] at e3 ⊢
      obtain ⟨rfl, rfl⟩ := mp_some e3
      exact x1 σ1 H2 B2 l2 R2

/-! ### what is walked -/
/-- the walk's items are those of ds, wherever what stood in B0 stands -/
structure ItD (J : It) (ds : List D) (B0 : Hp) : Prop where
  go : ∀ i H, Same B0 H → i < ds.length → J.go i H
  stop : ∀ i H, Same B0 H → ds.length ≤ i → J.stop i H
  yld : ∀ i H B x H', Same B0 B → Same B H → i < ds.length → J.yld i H x H' → ∃ d B', ds[i]? = some d ∧ Gr H B H' B' ∧ Rp B' x d
  small : ds.length ≤ sizeLine
def tI (os : Option (Addr × Addr)) (f : Fx (List D)) : TI := fun σ H R => ∃ δ st B F ds st', Rel os δ st σ H B F ∧ f δ st = some (ds, st') ∧ ∀ J H' B', Same B B' → Rel os δ st' σ H' B' F → ItD J ds B' → R J H'
variable {fi : Fx (List D)} {tg iter : Expr} {is : List Nat} {gt : D → List Slot → Option (List Slot)}
def forF (g : D → List Slot → Option (List Slot)) (b : Fx Flow) : List D → Fx Flow
  | [], δ => mp (.nx δ)
  | d :: ds, δ => mb (ml (g d δ)) fun δ1 => mb (b δ1) fun fl => match fl with
      | .nx δ' => forF g b ds δ'
      | .ct δ' => forF g b ds δ'
      | .bk δ' => mp (.nx δ')
      | .rt d => mp (.rt d)
def sFor (fi : Fx (List D)) (g : D → List Slot → Option (List Slot)) (b : Fx Flow) : Fx Flow := fun δ => mb (fi δ) fun ds => forF g b ds δ
theorem drop_cons {α : Type} {l : List α} {i : Nat} {d : α} (h : l[i]? = some d) : l.drop i = d :: l.drop (i + 1) := by
  obtain ⟨hi, e⟩ := List.getElem?_eq_some_iff.mp h
  rw [List.drop_eq_getElem_cons hi, e]
theorem sfor {body : List Stmt} (hp : PassesOwn (model X.prog X.w) X.A X.env X.xe) (hc : X.calm = true) (hi : PI X tg iter (tI os fi)) (hg : PG X tg (tG os is gt)) (hb : PSs X body (tB os p))
    (hs : ∀ x, foldedSetIterable iter X.env x = pure x := by intro _; rfl) : PS X (.For tg iter body [] pos) (tB os (sFor fi gt p)) := (ps_for hp hc hi hg hb hs).wk fun E σ H ⟨δ, st, B, F, fl, st', R, e, x⟩ => by
  obtain ⟨ds, s1, e1, e⟩ := mb_some e
  refine ⟨δ, st, B, F, ds, s1, R, e1, fun J H1 B1 l1 R1 it => ?_⟩
  refine ⟨fun i m σ H => m = ds.length - i ∧ ∃ δ st B, Rel os δ st σ H B F ∧ Same B1 B ∧ forF gt p (ds.drop i) δ st = some (fl, st') ∧ FlowTo os F B E st' fl, ⟨_, rfl, δ, s1, B1, R1, .refl _, e, x.mono l1⟩, ?_⟩
  rintro i m σ2 H2 ⟨rfl, δ2, s2, B2, R2, l2, e2, x2⟩
  by_cases hi : i < ds.length
  · refine .inr ⟨it.go i H2 (l2.trans R2.sub) hi, fun σ' H' => ∃ δ st B, Rel os δ st σ' H' B F ∧ Same B1 B ∧ forF gt p (ds.drop (i + 1)) δ st = some (fl, st') ∧ FlowTo os F B E st' fl, fun σ' H' h => ⟨ds.length - (i + 1), by omega, rfl, h⟩, fun y H3 hy => ?_⟩
    obtain ⟨d, B3, ed, g3, r3⟩ := it.yld i H2 B2 y H3 l2 R2.sub hi hy
    rw [drop_cons ed] at e2
    unfold forF at e2
    obtain ⟨δ3, s3, e3, e4⟩ := mb_some e2
    obtain ⟨m3, rfl⟩ := ml_some e3
    obtain ⟨fl4, s4, e6, e5⟩ := mb_some e4
    refine ⟨δ2, _, B3, F, d, δ3, R2.grow g3, r3, m3, fun σ4 H4 B4 l4 R4 _ => ⟨δ3, _, B4, F, fl4, s4, R4, e6, ?_⟩⟩
    have l24 : Same B2 B4 := g3.leB.trans l4
    cases fl4 with
    | nx δ' => exact fun σ' H' B' l R' => ⟨δ', s4, B', R', l2.trans (l24.trans l), e5, x2.mono (l24.trans l)⟩
    | ct δ' => exact fun σ' H' B' l R' => ⟨δ', s4, B', R', l2.trans (l24.trans l), e5, x2.mono (l24.trans l)⟩
    | bk δ' =>
      obtain ⟨rfl, rfl⟩ := mp_some e5
      exact fun σ' H' B' l R' => x2 σ' H' B' (l24.trans l) R'
    | rt d =>
      obtain ⟨rfl, rfl⟩ := mp_some e5
      exact fun v H' B' l R' r => x2 v H' B' (l24.trans l) R' r
  · have hd : ds.drop i = [] := List.drop_eq_nil_of_le (by omega)
    rw [hd] at e2
    unfold forF at e2
    obtain ⟨rfl, rfl⟩ := mp_some e2
    exact .inl ⟨it.stop i H2 (l2.trans R2.sub) (by omega), x2 σ2 H2 B2 (.refl _) R2⟩

/-! ### comprehensions -/
def wipeS (δ : List Slot) : List Nat → List Slot
  | [] => δ
  | v :: vs => (wipeS δ vs).set v .nil
def noOwn (δ : List Slot) (vs : List Nat) : Bool := vs.all fun i => match δ[i]? with
  | some (.own _) => false
  | _ => true
def lcGo (g : D → List Slot → Option (List Slot)) (t : Fx Bool) (e : Fx D) (δ : List Slot) : List D → M (List D)
  | [] => mp []
  | d :: ds => mb (ml (g d δ)) fun δ1 => mb (t δ1) fun c => if c = true then mb (e δ1) fun r => mb (lcGo g t e δ ds) fun rs => mp (r :: rs) else lcGo g t e δ ds
def lcF (fi : Fx (List D)) (g : D → List Slot → Option (List Slot)) (t : Fx Bool) (e : Fx D) (vs : List Nat) : Fx D := fun δ => mb (fi δ) fun ds => if noOwn δ vs = true then mb (lcGo g t e (wipeS δ vs) ds) fun rs => mp (.list rs) else m0
theorem wipe_get (σ : St) (j : Nat) : ∀ vs : List Nat, (wipe σ vs)[j]? = if j ∈ vs ∧ j < σ.length then some none else σ[j]?
  | [] => by simp [wipe]
  | v :: vs => by
    have ih := wipe_get σ j vs
    unfold wipe
    by_cases h : v = j
    · subst h
      by_cases hl : v < σ.length
      · rw [List.getElem?_set_self (by rw [wipe_length]; exact hl), if_pos ⟨by simp, hl⟩]
      · rw [List.getElem?_eq_none (by rw [List.length_set, wipe_length]; omega), if_neg (fun z => hl z.2), List.getElem?_eq_none (by omega)]
    · rw [List.getElem?_set_ne h, ih]
      have : (j ∈ v :: vs) ↔ j ∈ vs := by simp [Ne.symm h]
      simp only [this]
theorem wipeS_len (δ : List Slot) : ∀ vs : List Nat, (wipeS δ vs).length = δ.length
  | [] => rfl
  | v :: vs => by unfold wipeS; rw [List.length_set, wipeS_len δ vs]
theorem wipeS_get (δ : List Slot) (j : Nat) : ∀ vs : List Nat, (wipeS δ vs)[j]? = if j ∈ vs ∧ j < δ.length then some .nil else δ[j]?
  | [] => by simp [wipeS]
  | v :: vs => by
    have ih := wipeS_get δ j vs
    unfold wipeS
    by_cases h : v = j
    · subst h
      by_cases hl : v < δ.length
      · rw [List.getElem?_set_self (by rw [wipeS_len]; exact hl), if_pos ⟨by simp, hl⟩]
      · rw [List.getElem?_eq_none (by rw [List.length_set, wipeS_len]; omega), if_neg (fun z => hl z.2), List.getElem?_eq_none (by omega)]
    · rw [List.getElem?_set_ne h, ih]
      have : (j ∈ v :: vs) ↔ j ∈ vs := by simp [Ne.symm h]
      simp only [this]
theorem wipe_same {σ σ' : St} {vs : List Nat} (hl : σ'.length = σ.length) (h : ∀ j, j ∉ vs → σ'[j]? = (wipe σ vs)[j]?) : wipe σ' vs = wipe σ vs := by
  apply List.ext_getElem?
  intro j
  rw [wipe_get, wipe_get, hl]
  by_cases hj : j ∈ vs
  · by_cases hjl : j < σ.length
    · rw [if_pos ⟨hj, hjl⟩, if_pos ⟨hj, hjl⟩]
    · rw [if_neg (fun z => hjl z.2), if_neg (fun z => hjl z.2), List.getElem?_eq_none (by omega), List.getElem?_eq_none (by omega)]
  · rw [if_neg (fun z => hj z.1), if_neg (fun z => hj z.1)]
    have := h j hj
    rw [wipe_get, if_neg (fun z => hj z.1)] at this
    exact this
theorem Rel.wipe {δ : List Slot} {st : Src} {σ : St} {H B F : Hp} (R : Rel os δ st σ H B F) (vs : List Nat) : Rel os (wipeS δ vs) st (L2.wipe σ vs) H B F := by
  have g : ∀ (j : Nat) (sl : Slot), (wipeS δ vs)[j]? = some sl → sl ≠ .nil → δ[j]? = some sl ∧ (L2.wipe σ vs)[j]? = σ[j]? := fun j sl e hn => by
    rw [wipeS_get] at e
    by_cases hj : j ∈ vs ∧ j < δ.length
    · rw [if_pos hj] at e; cases e; exact absurd rfl hn
    · rw [if_neg hj] at e
      refine ⟨e, ?_⟩
      rw [wipe_get, if_neg]
      rw [← R.len]; exact hj
  refine ⟨R.sub, R.frm, R.dsj, fun i d e => ?_, fun i d e => ?_, fun i j d1 d2 p e1 e2 e3 e4 => ?_, fun i e => ?_, R.sat, by rw [wipeS_len, wipe_length, R.len]⟩
  · obtain ⟨e1, e2⟩ := g i _ e (fun z => nomatch z)
    rw [e2]; exact R.val i d e1
  · obtain ⟨e1, e2⟩ := g i _ e (fun z => nomatch z)
    rw [e2]; exact R.own i d e1
  · obtain ⟨a1, a2⟩ := g i _ e1 (fun z => nomatch z)
    obtain ⟨b1, b2⟩ := g j _ e2 (fun z => nomatch z)
    rw [a2] at e3
    rw [b2] at e4
    exact R.dis i j d1 d2 p a1 b1 e3 e4
  · obtain ⟨e1, e2⟩ := g i _ e (fun z => nomatch z)
    rw [e2]; exact R.src i e1
/-- out of the block: the state as it was, over the heap as it is -/
theorem Rel.unwipe {δ : List Slot} {st st' : Src} {σ : St} {H B F H' B' : Hp} {vs : List Nat} (R : Rel os δ st σ H B F) (no : noOwn δ vs = true) (R' : Rel os (wipeS δ vs) st' (L2.wipe σ vs) H' B' F) (l : Same B B') : Rel os δ st' σ H' B' F := by
  have ow : ∀ (i : Nat) (d : D), δ[i]? = some (.own d) → i ∉ vs := fun i d e hm => by
    have := List.all_eq_true.mp no i hm
    rw [e] at this
    cases this
  have g : ∀ (i : Nat), i ∉ vs → (wipeS δ vs)[i]? = δ[i]? ∧ (L2.wipe σ vs)[i]? = σ[i]? := fun i hi => by
    rw [wipeS_get, wipe_get, if_neg (fun z => hi z.1), if_neg (fun z => hi z.1)]
    exact ⟨rfl, rfl⟩
  refine ⟨R'.sub, R'.frm, R'.dsj, fun i d e => let ⟨v, e1, r⟩ := R.val i d e; ⟨v, e1, r.mono l⟩, fun i d e => ?_, R.dis, R.src, R'.sat, R.len⟩
  obtain ⟨g1, g2⟩ := g i (ow i d e)
  have := R'.own i d (g1.trans e)
  rw [g2] at this
  exact this
/-- the thing put aside, written -/
theorem Rel.rewrite {δ : List Slot} {st : Src} {σ : St} {H B F : Hp} {p : Addr} {o o' : HO} (R : Rel os δ st σ H B (upd F p o)) (hf : F p = none) (ht : ¬ TupO o := by rintro ⟨_, z⟩; cases z) : Rel os δ st σ (upd H p o') B (upd F p o') := by
  obtain ⟨R1, n, h⟩ := R.back hf ht
  have nb : ∀ a x, B a = some x → a ≠ p := fun a x e z => by rw [z, n.b] at e; cases e
  have nf : ∀ a x, F a = some x → a ≠ p := fun a x e z => by rw [z, hf] at e; cases e
  refine Rel.aside (H := upd H p o') ⟨fun a x e => by rw [upd_ne (nb a x e)]; exact R1.sub a x e, fun a x e => by rw [upd_ne (nf a x e)]; exact R1.frm a x e, R1.dsj, R1.val, fun i d e => ?_, R1.dis, R1.src, fun S L e => ?_, R1.len⟩ n upd_same
  · obtain ⟨q, e1, o1, b1, f1, s1⟩ := R1.own i d e
    have hq : q ≠ p := fun z => n.o i d e (by rw [e1, z])
    exact ⟨q, e1, o1.at fun x hx => (upd_ne hq).trans hx, b1, f1, s1⟩
  · obtain ⟨s, b1, b2, f1, f2⟩ := R1.sat S L e
    obtain ⟨h1, h2⟩ := n.s S L e
    exact ⟨⟨(upd_ne (Ne.symm h1)).trans s.1, (upd_ne (Ne.symm h2)).trans s.2⟩, b1, b2, f1, f2⟩
/-- the slots that are still told -/
theorem Rel.part {δ δ' : List Slot} {st st' : Src} {σ σ' : St} {H B F H' B' F' : Hp} (R : Rel os δ' st' σ' H' B' F') (R0 : Rel os δ st σ H B F) (hl : σ.length = σ'.length ∨ True) (h : ∀ (j : Nat) (sl : Slot), δ[j]? = some sl → sl ≠ .nil → δ'[j]? = some sl ∧ σ[j]? = σ'[j]?) : Rel os δ st' σ H' B' F' := by
  refine ⟨R.sub, R.frm, R.dsj, fun i d e => ?_, fun i d e => ?_, fun i j d1 d2 p e1 e2 e3 e4 => ?_, fun i e => ?_, R.sat, R0.len⟩
  · obtain ⟨e1, e2⟩ := h i _ e (fun z => nomatch z)
    rw [e2]; exact R.val i d e1
  · obtain ⟨e1, e2⟩ := h i _ e (fun z => nomatch z)
    rw [e2]; exact R.own i d e1
  · obtain ⟨a1, a2⟩ := h i _ e1 (fun z => nomatch z)
    obtain ⟨b1, b2⟩ := h j _ e2 (fun z => nomatch z)
    rw [a2] at e3
    rw [b2] at e4
    exact R.dis i j d1 d2 p a1 b1 e3 e4
  · obtain ⟨e1, e2⟩ := h i _ e (fun z => nomatch z)
    rw [e2]; exact R.src i e1
theorem rdLc [G : Gok is gt] {vs : List Nat} {tt : Fx Bool} {ef : Fx D} {σ : St} {H : Hp} {Q : VK} (his : ∀ i ∈ is, i ∈ vs) (q : tF os (lcF fi gt tt ef vs) σ H Q) : tLc (tI os fi) (tG os is gt) (tT os tt) (tS os ef) vs σ H Q := by
  obtain ⟨δ, st, B, F, d, st', R, e, q⟩ := q
  obtain ⟨ds, s1, e1, e⟩ := mb_some e
  by_cases no : noOwn δ vs = true
  · rw [if_pos no] at e
    obtain ⟨rs, s2, e2, e⟩ := mb_some e
    obtain ⟨rfl, rfl⟩ := mp_some e
    refine ⟨δ, st, B, F, ds, s1, R, e1, fun J H1 B1 l1 R1 it Da hD => ?_⟩
    have nD := R1.new hD
    refine ⟨fun i m H => m = ds.length - i ∧ i ≤ ds.length ∧ ∃ s B acc done rest, Rel os (wipeS δ vs) s (wipe σ vs) H B (upd F Da (.lst acc)) ∧ Same B1 B ∧ RpA B acc done ∧ acc.length ≤ i ∧ lcGo gt tt ef (wipeS δ vs) (ds.drop i) s = some (rest, st') ∧ rs = done ++ rest,
      ⟨_, rfl, Nat.zero_le _, s1, B1, [], [], rs, ?_, .refl _, .nil, Nat.le_refl _, e2, rfl⟩, ?_⟩
    · have R1' := (R1.wipe vs).grow (Gr.own (o := .lst []) R1.sub hD)
      exact R1'.aside ⟨nD.b, nD.f, (fun i d ei z => by
        obtain ⟨p, z1, o, _⟩ := (R1.wipe vs).own i d ei
        rw [z] at z1
        cases z1
        obtain ⟨x, hx⟩ := o.there
        rw [hD] at hx
        cases hx), nD.s⟩ upd_same
    · rintro i m H2 ⟨rfl, hi, s, B2, acc, done, rest, R2, l2, ra, hacc, e3, erS⟩
      have hfD : F Da = none := nD.f
      by_cases hlt : i < ds.length
      · refine .inr ⟨it.go i H2 (l2.trans R2.sub) hlt, fun H' => i + 1 ≤ ds.length ∧ ∃ s B acc done rest, Rel os (wipeS δ vs) s (wipe σ vs) H' B (upd F Da (.lst acc)) ∧ Same B1 B ∧ RpA B acc done ∧ acc.length ≤ i + 1 ∧ lcGo gt tt ef (wipeS δ vs) (ds.drop (i + 1)) s = some (rest, st') ∧ rs = done ++ rest,
          fun H' h => ⟨ds.length - (i + 1), by omega, rfl, h⟩, fun y H3 hy => ?_⟩
        obtain ⟨d, B3, ed, g3, r3⟩ := it.yld i H2 B2 y H3 l2 R2.sub hlt hy
        rw [drop_cons ed] at e3
        unfold lcGo at e3
        obtain ⟨δ3, s3, e4, e5'⟩ := mb_some e3
        obtain ⟨m4, rfl⟩ := ml_some e4
        obtain ⟨c, s5, e5, e6⟩ := mb_some e5'
        refine ⟨_, _, B3, _, d, δ3, R2.grow g3, r3, m4, fun σ4 H4 B4 l4 R4 k4 => ⟨?_, ?_⟩⟩
        · exact wipe_same (k4.1.trans (wipe_length _ _)) fun j hj => k4.2 j fun z => hj (his j z)
        · have l24 : Same B2 B4 := g3.leB.trans l4
          refine ⟨δ3, _, B4, _, c, s5, R4, e5, fun H5 B5 l5 R5 => ?_⟩
          have back : ∀ {st : Src} {H B : Hp} {o : HO}, Rel os δ3 st σ4 H B (upd F Da o) → Rel os (wipeS δ vs) st (wipe σ vs) H B (upd F Da o) := fun {st H B o} Rz => by
            obtain ⟨_, gk⟩ := G.at_ _ _ _ m4
            refine Rz.part R2 (.inr trivial) fun j sl ej hn => ?_
            have hj : j ∉ vs := fun hm => by
              rw [wipeS_get] at ej
              by_cases hl : j < δ.length
              · rw [if_pos ⟨hm, hl⟩] at ej; cases ej; exact hn rfl
              · rw [if_neg (fun z => hl z.2), List.getElem?_eq_none (by omega)] at ej; cases ej
            exact ⟨(gk j fun z => hj (his j z)).trans ej, (k4.2 j fun z => hj (his j z)).symm⟩
          show if c = true then _ else _
          by_cases hc : c = true
          · rw [if_pos hc] at e6 ⊢
            obtain ⟨r, s6, e7, e8⟩ := mb_some e6
            obtain ⟨rs2, s7, e9, e10⟩ := mb_some e8
            obtain ⟨rfl, rfl⟩ := mp_some e10
            refine ⟨δ3, s5, B5, _, r, s6, R5, e7, fun w H6 B6 l6 R6 r6 => ?_⟩
            obtain ⟨_, _, hDa⟩ := R6.back hfD
            refine ⟨acc, hDa, Nat.lt_of_le_of_lt hacc (Nat.lt_of_lt_of_le hlt it.small), hlt, s6, B6, acc ++ [w], done ++ [r], rs2, ?_, l2.trans (l24.trans (l5.trans l6)), (ra.mono (l24.trans (l5.trans l6))).append (.cons r6 .nil), ?_, e9, ?_⟩
            · exact (back R6).rewrite hfD
            · rw [List.length_append, List.length_singleton]; omega
            · rw [erS, List.append_assoc]; rfl
          · rw [if_neg hc] at e6 ⊢
            exact ⟨hlt, s5, B5, acc, done, rest, back R5, l2.trans (l24.trans l5), ra.mono (l24.trans l5), Nat.le_succ_of_le hacc, e6, erS⟩
      · have hd : ds.drop i = [] := List.drop_eq_nil_of_le (by omega)
        rw [hd] at e3
        unfold lcGo at e3
        obtain ⟨rfl, rfl⟩ := mp_some e3
        refine .inl ⟨it.stop i H2 (l2.trans R2.sub) (by omega), ?_⟩
        obtain ⟨R3, n3, h3⟩ := R2.back hfD
        have R4 := R.unwipe no R3 (l1.trans l2)
        rw [List.append_nil] at erS
        subst erS
        exact q Da H2 B2 (l1.trans l2) R4 ⟨acc, h3, ra⟩ ⟨n3.b, n3.f, (R1.new hD).o, n3.s⟩
  · rw [if_neg no] at e
    cases e
end
end VL

/-! VL2: operations by data: numbers, sequences, comparisons. -/
namespace VL
open PySem PySem.Spec PyProof.Rows L2
section
variable {X : Cx}

/-! ### numbers, sums of sequences -/
def addD : D → D → Option D
  | .int i, .int j => some (.int (i + j))
  | .tuple xs, .tuple ys => if xs.length + ys.length ≤ sizeLine then some (.tuple (xs ++ ys)) else none
  | .list xs, .list ys => if xs.length + ys.length ≤ sizeLine then some (.list (xs ++ ys)) else none
  | _, _ => none
def catD : D → D → Option D
  | .list xs, .list ys => if xs.length + ys.length ≤ sizeLine then some (.list (xs ++ ys)) else none
  | _, _ => none
def subD : D → D → Option D
  | .int i, .int j => some (.int (i - j))
  | _, _ => none
instance (i j : Int) : Decidable (CMul i j) := by unfold CMul; infer_instance
instance (i j : Int) : Decidable (CDivN i j) := by unfold CDivN; infer_instance
instance (i j : Int) : Decidable (CPow i j) := by unfold CPow; infer_instance
def mulD : D → D → Option D
  | .int i, .int j => if CMul i j then some (.int (i * j)) else none
  | .list xs, .int k => if -(2 ^ 63) ≤ k ∧ k < 2 ^ 63 ∧ xs.length * k.toNat ≤ sizeLine then some (.list (List.replicate k.toNat xs).flatten) else none
  | _, _ => none
def fdivD : D → D → Option D
  | .int i, .int j => if CDivN i j then some (.int (i.fdiv j)) else none
  | _, _ => none
def modD : D → D → Option D
  | .int i, .int j => if j ≠ 0 then some (.int (i.fmod j)) else none
  | _, _ => none
def powD : D → D → Option D
  | .int i, .int j => if CPow i j then some (.int (i ^ j.toNat)) else none
  | _, _ => none
def negD : D → Option D
  | .int i => some (.int (-i))
  | _ => none
theorem RpA.nil_iff {B : Hp} {vs : List V} {ds : List D} (r : RpA B vs ds) : vs = [] ↔ ds = [] := by
  have h := r.length
  constructor
  · intro e; subst e; exact List.eq_nil_of_length_eq_zero h.symm
  · intro e; subst e; exact List.eq_nil_of_length_eq_zero h
theorem RpA.rep {B : Hp} {vs : List V} {ds : List D} (r : RpA B vs ds) : ∀ n : Nat, RpA B (List.replicate n vs).flatten (List.replicate n ds).flatten
  | 0 => .nil
  | n + 1 => by
    rw [List.replicate_succ, List.flatten_cons, List.replicate_succ, List.flatten_cons]
    exact r.append (RpA.rep r n)
/-- t + u: a new tuple whose record is known, unless one of both is empty -/
theorem op_catZ : OpR X (binaryOp .Add) (fun x y H Q => ∃ a b xs ys, x = .ref a ∧ y = .ref b ∧ SqT X.K H a xs ∧ SqT X.K H b ys ∧ xs.length + ys.length ≤ sizeLine ∧
    (xs = [] → Q (.ref b) H) ∧ (xs ≠ [] → ys = [] → Q (.ref a) H) ∧ ∀ (p : Addr) (o : Obj), H p = none → o.dict = none → Q (.ref p) (upd H p (.tup (xs ++ ys)))) := by
  intro pins s σ H x y v u Q I rx ry h
  obtain ⟨a, b, xs, ys, rfl, rfl, ha, hb, hz, q0, q1, q2⟩ := h
  cases rx
  cases ry
  obtain ⟨its, r1, p1, _⟩ := I.tuple ha
  obtain ⟨its2, r2, p2, _⟩ := I.tuple hb
  by_cases hx : xs = []
  · subst hx
    cases r1
    exact cat_tup0 p1 p2 ⟨.ref b, H, I, rfl, q0 rfl⟩
  · refine HT.cat_tup p1 p2 (fun z => hx (r1.nil_iff.mp z)) (fun z => ⟨.ref a, H, I, rfl, q1 hx (r2.nil_iff.mp z)⟩) (fun z => ?_) (by rw [← r1.length, ← r2.length]; exact hz)
    let o : Obj := { cls := .type "tuple", data := .seq (its ++ its2).toArray }
    refine ⟨.ref s.heap.objs.size, _, I.laid (t' := s.toks) (o := .tup (xs ++ ys)) (fun b ob q => Heap.get?_push_of_some _ q) (Nat.le_refl _) ?_, rfl, q2 _ o (I.hok.fresh (Nat.le_refl _)) rfl⟩
    exact ⟨by rw [List.length_append]; exact hz, _, r1.append r2, IsTup.new _ _⟩
theorem oadd : OpR X (binaryOp .Add) (r2 addD) := by
  intro pins s σ H x y v u Q I rx ry ⟨B, a, b, d, sb, wa, wb, e, q⟩
  cases a with
  | int i =>
    cases b with
    | int j =>
      obtain rfl := wa.int
      obtain rfl := wb.int
      cases e
      exact op_add pins s σ H _ _ v u Q I rx ry ⟨i, j, rfl, rfl, q _ H B (.refl sb) (.int _)⟩
    | _ => cases e
  | tuple xs =>
    cases b with
    | tuple ys =>
      have e' : (if xs.length + ys.length ≤ sizeLine then some (PyData.tuple (xs ++ ys)) else none) = some d := e
      by_cases hl : xs.length + ys.length ≤ sizeLine
      · rw [if_pos hl] at e'
        cases e'
        obtain ⟨p1, vs, rfl, h1, b1, r1⟩ := wa.tup sb
        obtain ⟨p2, ws, rfl, h2, b2, r2⟩ := wb.tup sb
        refine op_catZ pins s σ H _ _ v u Q I rx ry ⟨p1, p2, vs, ws, rfl, rfl, h1.sq, h2.sq, by rw [r1.length, r2.length]; exact hl, fun z => ?_, fun _ z => ?_, fun p o hp hd => ?_⟩
        · have := r1.nil_iff.mp z
          subst this
          exact q _ H B (.refl sb) (.tup b2 r2)
        · have := r2.nil_iff.mp z
          subst this
          rw [List.append_nil] at q
          exact q _ H B (.refl sb) (.tup b1 r1)
        · have g : Gr H B (upd H p (.tup (vs ++ ws))) (upd B p (.tup (vs ++ ws))) := Gr.put sb hp
          exact q _ _ _ g (.tup (.put hd) ((r1.append r2).mono g.leB))
      · rw [if_neg hl] at e'; cases e'
    | _ => cases e
  | list xs =>
    cases b with
    | list ys =>
      have e' : (if xs.length + ys.length ≤ sizeLine then some (PyData.list (xs ++ ys)) else none) = some d := e
      by_cases hl : xs.length + ys.length ≤ sizeLine
      · rw [if_pos hl] at e'
        cases e'
        obtain ⟨p1, vs, rfl, h1, r1⟩ := wa.lst sb
        obtain ⟨p2, ws, rfl, h2, r2⟩ := wb.lst sb
        refine op_cat pins s σ H _ _ v u Q I rx ry ⟨p1, p2, vs, ws, rfl, rfl, h1, h2, by rw [r1.length, r2.length]; exact hl, fun p hp => ?_⟩
        have g : Gr H B (upd H p (.lst (vs ++ ws))) (upd B p (.lst (vs ++ ws))) := Gr.put sb hp
        exact q _ _ _ g (.lst upd_same ((r1.append r2).mono g.leB))
      · rw [if_neg hl] at e'; cases e'
    | _ => cases e
  | _ => cases e
theorem ocat : OpR X (binaryOp .Add) (r2F catD) := by
  intro pins s σ H x y v u Q I rx ry ⟨B, a, b, d, sb, wa, wb, e, q⟩
  cases a with
  | list xs =>
    cases b with
    | list ys =>
      have e' : (if xs.length + ys.length ≤ sizeLine then some (PyData.list (xs ++ ys)) else none) = some d := e
      by_cases hl : xs.length + ys.length ≤ sizeLine
      · rw [if_pos hl] at e'
        cases e'
        obtain ⟨p1, vs, rfl, h1, r1⟩ := wa.lst sb
        obtain ⟨p2, ws, rfl, h2, r2⟩ := wb.lst sb
        refine op_cat pins s σ H _ _ v u Q I rx ry ⟨p1, p2, vs, ws, rfl, rfl, h1, h2, by rw [r1.length, r2.length]; exact hl, fun p hp => ?_⟩
        have g : Gr H B (upd H p (.lst (vs ++ ws))) B := Gr.own sb hp
        exact q _ _ _ g hp (sub_none sb hp) ⟨_, upd_same, r1.append r2⟩
      · rw [if_neg hl] at e'; cases e'
    | _ => cases e
  | _ => cases e
theorem osub : OpR X (binaryOp .Sub) (r2 subD) := by
  intro pins s σ H x y v u Q I rx ry ⟨B, a, b, d, sb, wa, wb, e, q⟩
  cases a with
  | int i =>
    cases b with
    | int j =>
      obtain rfl := wa.int
      obtain rfl := wb.int
      cases e
      exact op_sub pins s σ H _ _ v u Q I rx ry ⟨i, j, rfl, rfl, q _ H B (.refl sb) (.int _)⟩
    | _ => cases e
  | _ => cases e
theorem omul : OpR X (binaryOp .Mult) (r2 mulD) := by
  intro pins s σ H x y v u Q I rx ry ⟨B, a, b, d, sb, wa, wb, e, q⟩
  cases a with
  | int i =>
    cases b with
    | int j =>
      obtain rfl := wa.int
      obtain rfl := wb.int
      have e' : (if CMul i j then some (PyData.int (i * j)) else none) = some d := e
      by_cases hc : CMul i j
      · rw [if_pos hc] at e'
        cases e'
        exact op_mul pins s σ H _ _ v u Q I rx ry ⟨i, j, rfl, rfl, hc, q _ H B (.refl sb) (.int _)⟩
      · rw [if_neg hc] at e'; cases e'
    | _ => cases e
  | list xs =>
    cases b with
    | int k =>
      obtain rfl := wb.int
      have e' : (if -(2 ^ 63) ≤ k ∧ k < 2 ^ 63 ∧ xs.length * k.toNat ≤ sizeLine then some (PyData.list (List.replicate k.toNat xs).flatten) else none) = some d := e
      by_cases hc : -(2 ^ 63) ≤ k ∧ k < 2 ^ 63 ∧ xs.length * k.toNat ≤ sizeLine
      · rw [if_pos hc] at e'
        cases e'
        obtain ⟨p1, vs, rfl, h1, r1⟩ := wa.lst sb
        refine op_rep pins s σ H _ _ v u Q I rx ry ⟨p1, k, vs, rfl, rfl, h1, hc.1, hc.2.1, by rw [r1.length]; exact hc.2.2, fun p hp => ?_⟩
        have g : Gr H B (upd H p (.lst (List.replicate k.toNat vs).flatten)) (upd B p (.lst (List.replicate k.toNat vs).flatten)) := Gr.put sb hp
        exact q _ _ _ g (.lst upd_same ((r1.rep _).mono g.leB))
      · rw [if_neg hc] at e'; cases e'
    | _ => cases e
  | _ => cases e
theorem ofdiv : OpR X (binaryOp .FloorDiv) (r2 fdivD) := by
  intro pins s σ H x y v u Q I rx ry ⟨B, a, b, d, sb, wa, wb, e, q⟩
  cases a with
  | int i =>
    cases b with
    | int j =>
      obtain rfl := wa.int
      obtain rfl := wb.int
      have e' : (if CDivN i j then some (PyData.int (i.fdiv j)) else none) = some d := e
      by_cases hc : CDivN i j
      · rw [if_pos hc] at e'
        cases e'
        exact op_fdivN pins s σ H _ _ v u Q I rx ry ⟨i, j, rfl, rfl, hc, q _ H B (.refl sb) (.int _)⟩
      · rw [if_neg hc] at e'; cases e'
    | _ => cases e
  | _ => cases e
theorem omod : OpR X (binaryOp .Mod) (r2 modD) := by
  intro pins s σ H x y v u Q I rx ry ⟨B, a, b, d, sb, wa, wb, e, q⟩
  cases a with
  | int i =>
    cases b with
    | int j =>
      obtain rfl := wa.int
      obtain rfl := wb.int
      have e' : (if j ≠ 0 then some (PyData.int (i.fmod j)) else none) = some d := e
      by_cases hc : j ≠ 0
      · rw [if_pos hc] at e'
        cases e'
        exact op_modN pins s σ H _ _ v u Q I rx ry ⟨i, j, rfl, rfl, hc, q _ H B (.refl sb) (.int _)⟩
      · rw [if_neg hc] at e'; cases e'
    | _ => cases e
  | _ => cases e
theorem opow : OpR X (binaryOp .Pow) (r2 powD) := by
  intro pins s σ H x y v u Q I rx ry ⟨B, a, b, d, sb, wa, wb, e, q⟩
  cases a with
  | int i =>
    cases b with
    | int j =>
      obtain rfl := wa.int
      obtain rfl := wb.int
      have e' : (if CPow i j then some (PyData.int (i ^ j.toNat)) else none) = some d := e
      by_cases hc : CPow i j
      · rw [if_pos hc] at e'
        cases e'
        exact op_pow pins s σ H _ _ v u Q I rx ry ⟨i, j, rfl, rfl, hc, q _ H B (.refl sb) (.int _)⟩
      · rw [if_neg hc] at e'; cases e'
    | _ => cases e
  | _ => cases e
theorem oneg : UnR X (unaryOp .USub) (r1 negD) := by
  intro pins s σ H x v Q I rx ⟨B, a, d, sb, wa, e, q⟩
  cases a with
  | int i =>
    obtain rfl := wa.int
    cases e
    exact un_neg pins s σ H _ v Q I rx ⟨i, rfl, q _ H B (.refl sb) (.int _)⟩
  | _ => cases e

/-! ### items -/
def keyOf : D → Option Key
  | .int i => some (.inl i)
  | .str x => some (.inr x)
  | _ => none
def keysOf : List D → Option (List Key)
  | [] => some []
  | d :: ds => (keyOf d).bind fun k => (keysOf ds).map (k :: ·)
theorem keyOf_some {d : D} {k : Key} (h : keyOf d = some k) : d = kD k := by
  cases d with
  | int i => cases h; rfl
  | str x => cases h; rfl
  | _ => cases h
theorem keyOf_kD (k : Key) : keyOf (kD k) = some k := by cases k <;> rfl
theorem keysOf_some : ∀ {ds : List D} {ks : List Key}, keysOf ds = some ks → ds = ks.map kD
  | [], ks, h => by cases h; rfl
  | d :: ds, ks, h => by
    obtain ⟨k, e1, e2⟩ := Option.bind_eq_some_iff.mp h
    obtain ⟨ks', e3, rfl⟩ := Option.map_eq_some_iff.mp e2
    rw [keyOf_some e1, keysOf_some e3]; rfl
theorem keysOf_kD : ∀ ks : List Key, keysOf (ks.map kD) = some ks
  | [] => rfl
  | k :: ks => by
    show (keyOf (kD k)).bind (fun k' => (keysOf (ks.map kD)).map (k' :: ·)) = _
    rw [keyOf_kD, keysOf_kD ks]; rfl
theorem kD_inj {a b : Key} (h : kD a = kD b) : a = b := by
  have := keyOf_kD a
  rw [h, keyOf_kD] at this
  exact (Option.some.inj this).symm
theorem kDs_inj {a b : List Key} (h : a.map kD = b.map kD) : a = b := by
  have := keysOf_kD a
  rw [h, keysOf_kD] at this
  exact (Option.some.inj this).symm
/-- a dict's value at a key (int or text; tuple of such) -/
def lookK (k : Key) : List (D × D) → Option D
  | [] => none
  | (a, d) :: r => if keyOf a = some k then some d else lookK k r
def keysT : D → Option (List Key)
  | .tuple ds => keysOf ds
  | _ => none
def lookT (k : List Key) : List (D × D) → Option D
  | [] => none
  | (a, d) :: r => if keysT a = some k then some d else lookT k r
/-- looked up: none where the key is none for such a dict, some none where it isn't there -/
def lookD (es : List (D × D)) (k : D) : Option (Option D) := match es with
  | [] => (keyOf k).map fun _ => none
  | (k0, _) :: _ => match keyOf k0 with
    | some _ => (keyOf k).map fun kk => lookK kk es
    | none => match keysT k0 with
      | some _ => (keysT k).map fun kk => lookT kk es
      | none => none
theorem look_E {B : Hp} {k : Key} : ∀ {kvs : List (Key × V)} {es : List (D × D)}, RpE B kvs es → (lookK k es = none ∧ valV kvs k = none) ∨ ∃ d v, lookK k es = some d ∧ valV kvs k = some v ∧ Rp B v d
  | _, _, .nil => .inl ⟨rfl, rfl⟩
  | _, _, .cons (k := k') (v := v) (d := d) (kvs := kvs) (es := es) r rr => by
    have hk : lookK k ((kD k', d) :: es) = if some k' = some k then some d else lookK k es := by
      show (if keyOf (kD k') = some k then some d else lookK k es) = _
      rw [keyOf_kD]
    rw [hk]
    by_cases e : k' = k
    · rw [if_pos (by rw [e]), valV_pos (p := (k', v)) e]
      exact .inr ⟨d, v, rfl, rfl, r⟩
    · rw [if_neg (fun z => e (Option.some.inj z)), valV_neg (p := (k', v)) e]
      exact look_E rr
theorem look_T {B : Hp} {k : List Key} : ∀ {kvs : List (List Key × V)} {es : List (D × D)}, RpT B kvs es → (lookT k es = none ∧ valV kvs k = none) ∨ ∃ d v, lookT k es = some d ∧ valV kvs k = some v ∧ Rp B v d
  | _, _, .nil => .inl ⟨rfl, rfl⟩
  | _, _, .cons (k := k') (v := v) (d := d) (kvs := kvs) (es := es) r rr => by
    have hk : lookT k ((.tuple (k'.map kD), d) :: es) = if some k' = some k then some d else lookT k es := by
      show (if keysOf (k'.map kD) = some k then some d else lookT k es) = _
      rw [keysOf_kD]
    rw [hk]
    by_cases e : k' = k
    · rw [if_pos (by rw [e]), valV_pos (p := (k', v)) e]
      exact .inr ⟨d, v, rfl, rfl, r⟩
    · rw [if_neg (fun z => e (Option.some.inj z)), valV_neg (p := (k', v)) e]
      exact look_T rr
/-- xs[i], d[k] -/
def ixD : D → D → Option D
  | .list xs, .int i => atI xs i
  | .tuple xs, .int i => atI xs i
  | .dict es, k => (lookD es k).bind id
  | _, _ => none
theorem RpA.atI {B : Hp} {vs : List V} {ds : List D} {i : Int} {d : D} (r : RpA B vs ds) (e : L2.atI ds i = some d) : ∃ v, L2.atI vs i = some v ∧ Rp B v d := by
  unfold L2.atI at e ⊢
  rw [r.length]
  cases h : ixN ds.length i with
  | none => rw [h] at e; cases e
  | some j =>
    rw [h] at e
    exact r.get e
theorem RpA.tupK {B : Hp} : ∀ {vs : List V} {ks : List Key}, RpA B vs (ks.map kD) → vs = ks.map kV
  | _, [], .nil => rfl
  | _, k :: ks, .cons a r => by
    rw [List.map_cons, RpA.tupK r]
    cases k with
    | inl i => cases a; rfl
    | inr x => cases a; rfl
/-- a dict's entry, as the hand layer asks for it -/
theorem dget_of {H B : Hp} {x y : V} {es : List (D × D)} {k : D} {o : Option D} (sb : Same B H) (wd : Wk B H x (.dict es)) (wk : Wk B H y k) (e : lookD es k = some o) :
    ∃ a r, x = .ref a ∧ DGet H a y r ∧ ((o = none ∧ r = none) ∨ ∃ d v, o = some d ∧ r = some v ∧ Rp B v d) := by
  obtain ⟨a, rfl, h⟩ := wd.dic sb
  have kk : ∀ {k' : Key}, keyOf k = some k' → y = kV k' := fun {k'} q => by
    obtain rfl := keyOf_some q
    cases k' with
    | inl i => exact wk.int
    | inr z => exact wk.str
  rcases h with ⟨kvs, h, r⟩ | ⟨kvs, h, r, hne⟩
  · have q : ∃ k', keyOf k = some k' ∧ o = lookK k' es := by
      cases r with
      | nil =>
        obtain ⟨k', e1, e2⟩ := Option.map_eq_some_iff.mp (show (keyOf k).map (fun _ => none) = some o from e)
        exact ⟨k', e1, e2.symm⟩
      | @cons k0 v d kvs es ra rb =>
        have e' : (match keyOf (kD k0) with
          | some _ => (keyOf k).map fun kk => lookK kk ((kD k0, d) :: es)
          | none => match keysT (kD k0) with
            | some _ => (keysT k).map fun kk => lookT kk ((kD k0, d) :: es)
            | none => none) = some o := e
        rw [keyOf_kD] at e'
        obtain ⟨k', e1, e2⟩ := Option.map_eq_some_iff.mp e'
        exact ⟨k', e1, e2.symm⟩
    obtain ⟨k', e1, rfl⟩ := q
    obtain rfl := kk e1
    exact ⟨a, valV kvs k', rfl, DGet.k h, look_E r⟩
  · cases r with
    | nil => exact (hne rfl).elim
    | @cons k0 v d kvs es ra rb =>
      have e' : (match keysOf (k0.map kD) with
        | some _ => (keysT k).map fun kk => lookT kk ((.tuple (k0.map kD), d) :: es)
        | none => none) = some o := e
      rw [keysOf_kD] at e'
      obtain ⟨k', e1, e2⟩ := Option.map_eq_some_iff.mp e'
      have hk : k = .tuple (k'.map kD) := by
        cases k with
        | tuple ds => rw [keysOf_some (show keysOf ds = some k' from e1)]
        | _ => cases e1
      subst hk e2
      obtain ⟨b, xs, rfl, hb, _, rr⟩ := wk.tup sb
      obtain rfl := rr.tupK
      exact ⟨a, valV _ k', rfl, DGet.t h hb, look_T (.cons ra rb)⟩
theorem oix : IxR X (r2 fun a b => match a with
    | .dict _ => none
    | _ => ixD a b) := by
  intro value slice pins s σ H x y v u Q I rx ry ⟨B, a, b, d, sb, wa, wb, e, q⟩ hs
  cases a with
  | list xs =>
    cases b with
    | int i =>
      obtain rfl := wb.int
      obtain ⟨p1, vs, rfl, h1, r1⟩ := wa.lst sb
      obtain ⟨w, e1, rw'⟩ := r1.atI (show atI xs i = some d from e)
      exact ix_list value slice pins s σ H _ _ v u Q I rx ry ⟨p1, vs, i, w, rfl, rfl, .of h1, e1, q _ H B (.refl sb) rw'⟩ hs
    | _ => cases e
  | tuple xs =>
    cases b with
    | int i =>
      obtain rfl := wb.int
      obtain ⟨p1, vs, rfl, h1, _, r1⟩ := wa.tup sb
      obtain ⟨w, e1, rw'⟩ := r1.atI (show atI xs i = some d from e)
      exact ix_tup value slice pins s σ H _ _ v u Q I rx ry ⟨p1, vs, i, w, rfl, rfl, h1.sq, e1, q _ H B (.refl sb) rw'⟩ hs
    | _ => cases e
  | _ => cases e
variable {a b e : Expr} {os : Option (Addr × Addr)} {f g : Fx D} {pos : Pos}
/-- xs[i] -/
def itemD (a b : D) : Option D := match a with
  | .dict _ => none
  | _ => ixD a b
theorem eit (ha : PE X a (tW os f)) (hb : PE X b (tW os g)) (hs : PlainIx b := by intro _ _; rfl) : PE X (.Subscript a b pos) (tS os (f2 itemD f g)) := eix (h := itemD) oix ha hb hs
/-- d[k] -/
def dgetD : D → D → Option D
  | .dict es, k => (lookD es k).bind id
  | _, _ => none
theorem edg (hu : X.A.units + 1 < cLine) (ha : PE X a (tW os f)) (hb : PE X b (tW os g)) (hs : NoSl b := by intro _ _; rfl) : PE X (.Subscript a b pos) (tS os (f2 dgetD f g)) := (pe_dget hu ha hb hs).wk fun σ H Q ⟨δ, st, B, F, d, st', R, ea, q⟩ => by
  obtain ⟨x, s1, e1, eb⟩ := mb_some ea
  obtain ⟨y, s2, e2, ec⟩ := mb_some eb
  obtain ⟨e3, rfl⟩ := ml_some ec
  refine ⟨δ, st, B, F, x, s1, R, e1, fun v H1 B1 l1 R1 w1 => ⟨δ, s1, B1, F, y, _, R1, e2, fun u H2 B2 l2 R2 w2 => ?_⟩⟩
  cases x with
  | dict es =>
    obtain ⟨o, eo, eo2⟩ := Option.bind_eq_some_iff.mp (show (lookD es y).bind id = some d from e3)
    have eo3 : o = some d := eo2
    subst eo3
    obtain ⟨a, r, rfl, hr, h⟩ := dget_of R2.sub ((w1.mono l2).wk R2) (w2.wk R2) eo
    rcases h with ⟨h, _⟩ | ⟨d', v', h1, h2, h3⟩
    · cases h
    · cases h1
      rw [h2] at hr
      exact ⟨a, v', rfl, hr, q v' H2 B2 (l1.trans l2) R2 h3⟩
  | _ => cases e3

/-! ### slices -/
def cutD {α : Type} (xs : List α) (lo hi : Option Int) : List α := (xs.drop (HT.sIx xs.length 0 lo)).take (HT.sIx xs.length xs.length hi - HT.sIx xs.length 0 lo)
def slD (x : D) (lo hi : Option Int) : Option D := match x with
  | .tuple xs => some (.tuple (cutD xs lo hi))
  | .list xs => some (.list (cutD xs lo hi))
  | _ => none
def rs (h : D → Option Int → Option Int → Option D) : V → Option Int → Option Int → Hp → VK → Prop := fun x lo hi H Q => ∃ B a d, Same B H ∧ Wk B H x a ∧ h a lo hi = some d ∧ ∀ z H' B', Gr H B H' B' → Rp B' z d → Q z H'
theorem RpA.cut {B : Hp} {vs : List V} {ds : List D} (r : RpA B vs ds) (lo hi : Option Int) : RpA B (cutV vs lo hi) (cutD ds lo hi) := by
  unfold cutV cutD
  rw [r.length]
  exact (r.drop _).take _
theorem cutD_whole {ds : List D} {lo hi : Option Int} (h : HT.sIx ds.length 0 lo = 0 ∧ HT.sIx ds.length ds.length hi = ds.length) : cutD ds lo hi = ds := by
  unfold cutD
  rw [h.1, h.2, List.drop_zero, Nat.sub_zero, List.take_length]
/-- t[lo:hi]: the whole of it is t itself, else a new tuple whose record is known -/
theorem sl_tupZ : SlR X (fun x lo hi H Q => ∃ a xs, x = .ref a ∧ SqT X.K H a xs ∧
    (HT.sIx xs.length 0 lo = 0 ∧ HT.sIx xs.length xs.length hi = xs.length → Q (.ref a) H) ∧ ∀ (p : Addr) (o : Obj), H p = none → o.dict = none → Q (.ref p) (upd H p (.tup (cutV xs lo hi)))) := by
  intro pins s σ H x v vl vu lo hi sl Q I rx hs pl pu h
  obtain ⟨a, xs, rfl, hx, q1, q2⟩ := h
  cases rx
  obtain ⟨its, r, ht, hz⟩ := I.tuple hx
  have hlen : its.toArray.size = xs.length := by rw [List.size_toArray]; exact r.length.symm
  refine ⟨"tuple", _, PyProof.Rows.slot_tuple_getitem.lookup, ht.typeIs, ?_⟩
  by_cases hw : HT.sIx xs.length 0 lo = 0 ∧ HT.sIx xs.length xs.length hi = xs.length
  · exact getItem_tuple_whole ht hs pl pu (by rw [hlen]; exact hw) ⟨.ref a, H, I, rfl, q1 hw⟩
  · refine HT.getItem_tuple_cut ht hs pl pu (by rw [hlen]; exact hw) ?_ (by rw [hlen]; exact hz)
    rw [hlen]
    let o : Obj := { cls := .type "tuple", data := .seq ((its.drop (HT.sIx xs.length 0 lo)).take (HT.sIx xs.length xs.length hi - HT.sIx xs.length 0 lo)).toArray }
    refine ⟨.ref s.heap.objs.size, _, I.laid (t' := s.toks) (o := .tup (cutV xs lo hi)) (fun b ob q => Heap.get?_push_of_some _ q) (Nat.le_refl _) ?_, rfl, q2 _ o (I.hok.fresh (Nat.le_refl _)) rfl⟩
    exact ⟨Nat.le_trans (cutV_length xs lo hi) hz, _, (r.drop (HT.sIx xs.length 0 lo)).take (HT.sIx xs.length xs.length hi - HT.sIx xs.length 0 lo), IsTup.new _ _⟩
theorem osl : SlR X (rs slD) := by
  intro pins s σ H x v vl vu lo hi sl Q I rx hs pl pu ⟨B, a, d, sb, wa, e, q⟩
  cases a with
  | tuple xs =>
    cases e
    obtain ⟨p1, vs, rfl, h1, b1, r1⟩ := wa.tup sb
    refine sl_tupZ pins s σ H _ v vl vu lo hi sl Q I rx hs pl pu ⟨p1, vs, rfl, h1.sq, fun z => ?_, fun p o hp hd => ?_⟩
    · rw [r1.length] at z
      rw [cutD_whole z] at q
      exact q _ H B (.refl sb) (.tup b1 r1)
    · have g : Gr H B (upd H p (.tup (cutV vs lo hi))) (upd B p (.tup (cutV vs lo hi))) := Gr.put sb hp
      exact q _ _ _ g (.tup (.put hd) ((r1.cut lo hi).mono g.leB))
  | list xs =>
    cases e
    obtain ⟨p1, vs, rfl, h1, r1⟩ := wa.lst sb
    refine sl_list pins s σ H _ v vl vu lo hi sl Q I rx hs pl pu ⟨p1, vs, rfl, .of h1, fun p hp => ?_⟩
    have g : Gr H B (upd H p (.lst (cutV vs lo hi))) (upd B p (.lst (cutV vs lo hi))) := Gr.put sb hp
    exact q _ _ _ g (.lst upd_same ((r1.cut lo hi).mono g.leB))
  | _ => cases e
abbrev Fo := Fx (Option Int)
def tP (os : Option (Addr × Addr)) (f : Fo) : TO := fun σ H Q => ∃ δ st B F d st', Rel os δ st σ H B F ∧ f δ st = some (d, st') ∧ ∀ H' B', Same B B' → Rel os δ st' σ H' B' F → Q d H'
theorem _root_.L2.PO.wk {e : Option Expr} {t t' : TO} (h : PO X e t) (hh : ∀ σ H Q, t' σ H Q → t σ H Q) : PO X e t' := ⟨fun pins s σ H Q I q => h.run pins s σ H Q I (hh σ H Q q)⟩
def foN : Fo := fun _ => mp none
def asI : D → M Int
  | .int i => mp i
  | _ => m0
theorem asI_some {d : D} {s s' : Src} {k : Int} (h : asI d s = some (k, s')) : d = .int k ∧ s' = s := by
  cases d with
  | int b => cases h; exact ⟨rfl, rfl⟩
  | _ => cases h
def foS (f : Fx D) : Fo := fun δ => mb (f δ) fun d => mb (asI d) fun i => mp (some i)
theorem pon : PO X none (tP os foN) := po_none.wk fun σ H Q ⟨δ, st, B, F, d, st', R, e, q⟩ => by
  obtain ⟨rfl, rfl⟩ := mp_some e
  exact q H B (.refl _) R
theorem posm (h : PE X e (tS os f)) : PO X (some e) (tP os (foS f)) := (po_some h).wk fun σ H Q ⟨δ, st, B, F, d, st', R, ea, q⟩ => by
  obtain ⟨x, s1, e1, eb⟩ := mb_some ea
  obtain ⟨i, s2, e2, ec⟩ := mb_some eb
  obtain ⟨rfl, rfl⟩ := asI_some e2
  obtain ⟨rfl, rfl⟩ := mp_some ec
  refine ⟨δ, st, B, F, _, _, R, e1, fun v H1 B1 l1 R1 r1 => ?_⟩
  cases r1
  exact ⟨i, rfl, q H1 B1 l1 R1⟩
def fSl (f : Fx D) (lo hi : Fo) : Fx D := fun δ => mb (f δ) fun x => mb (lo δ) fun l => mb (hi δ) fun h => ml (slD x l h)
theorem esl {lo hi : Option Expr} {p2 : Pos} {fl fh : Fo} (he : PE X e (tW os f)) (hl : PO X lo (tP os fl)) (hu : PO X hi (tP os fh)) : PE X (.Subscript e (.Slice lo hi none p2) pos) (tS os (fSl f fl fh)) := (pe_slice osl he hl hu).wk fun σ H Q ⟨δ, st, B, F, d, st', R, ea, q⟩ => by
  obtain ⟨x, s1, e1, eb⟩ := mb_some ea
  obtain ⟨l, s2, e2, ec⟩ := mb_some eb
  obtain ⟨h, s3, e3, ed⟩ := mb_some ec
  obtain ⟨e4, rfl⟩ := ml_some ed
  exact ⟨δ, st, B, F, x, s1, R, e1, fun v H1 B1 l1 R1 w1 => ⟨δ, s1, B1, F, l, s2, R1, e2, fun H2 B2 l2 R2 => ⟨δ, s2, B2, F, h, _, R2, e3, fun H3 B3 l3 R3 =>
    ⟨B3, x, d, R3.sub, (w1.mono (l2.trans l3)).wk R3, e4, fun z H4 B4 g4 r4 => q z H4 B4 (l1.trans (l2.trans (l3.trans g4.leB))) (R3.grow g4) r4⟩⟩⟩⟩
end
end VL

/-! VL3: values read as data; equality, order, membership, repr. -/
namespace VL
open PySem PySem.Spec PySem.SeqAt PySem.AutoSeq1 PySem.MeetsSeq PySem.MeetsSeq2 PySem.MeetsSeq3 PySem.SeqRoads2
/-! ### a text against a dict -/
theorem sub_str_dict : isSubtype (.type "str") (.type "dict") = pure false := by rw [isSubtype_type]; kernel_rfl
theorem dict_eq_declines_str (l : Addr) (es : Array DictEntry) (n : Nat) (dd : Option Addr) (sl : Array (Option Value)) (b : Str) (u : Tok) :
    Meets (Builtin.«dict.__eq__» ⟨[.ref l, .str b u], []⟩) (fun _ R s => s.heap.get? l = some { cls := .type "dict", dict := dd, data := .dict es n, slots := sl } ∧ R (.ok (.ret .notImplemented)) s) :=
  .of_wp fun prog w A R s h => by obtain ⟨hp, g, d, tk, os⟩ := s; obtain ⟨hl, h⟩ := h; have f1 := sub_str_dict; wp_walk using wpAny_loadPart' hl; exact ⟨_, rfl, h⟩
theorem str_eq_declines_dict (b : Str) (u : Tok) (l : Addr) (es : Array DictEntry) (n : Nat) (dd : Option Addr) (sl : Array (Option Value)) :
    Meets (Builtin.«str.__eq__» ⟨[.str b u, .ref l], []⟩) (fun _ R s => s.heap.get? l = some { cls := .type "dict", dict := dd, data := .dict es n, slots := sl } ∧ R (.ok (.ret .notImplemented)) s) :=
  .of_wp fun prog w A R s h => by obtain ⟨hp, g, d, tk, os⟩ := s; obtain ⟨hl, h⟩ := h; wp_walk using wpAny_loadPart' hl; exact ⟨_, rfl, h⟩
section
variable {A : Around} {s : Shared}
theorem RcAt.str_dict {l : Addr} {es : Array DictEntry} {n : Nat} {o : Obj} (b : Str) (u : Tok) (ho : s.heap.get? l = some o) (hc : o.cls = .type "dict") (hd : o.data = .dict es n) (hu : A.units < cLine) : RcAt A s (.str b u) (.ref l) false := fun prog w E Q h => by
  obtain ⟨cls, dd, data, sl⟩ := o
  simp only at hc hd
  subst hc hd
  exact rc_eq_decline_or (k := false) (typeIs_str s b u) ⟨_, ho, rfl⟩ (by decide) (by rw [isSubtype_type]; kernel_rfl) F.slot_str_eq F.slot_dict_eq_refl
    (fun _ hq => call_meets F.slot_str_eq (typeIs_str s b u) F.entry_str_eq (F.args_str_eq_2 _ _) (str_eq_declines_dict b u l es n dd sl) ⟨ho, hq⟩)
    (fun _ hq => call_meets F.slot_dict_eq_refl ⟨_, ho, rfl⟩ F.entry_dict_eq (F.args_dict_eq_2 _ _) (dict_eq_declines_str l es n dd sl b u) ⟨ho, hq⟩)
    (fun _ hq => wpAny_of_eq (rfl : isSame (.str b u) (.ref l) = pure false) hq) (.inr hu) h
theorem EqAt.str_dict {l : Addr} {es : Array DictEntry} {n : Nat} {o : Obj} (b : Str) (u : Tok) (ho : s.heap.get? l = some o) (hc : o.cls = .type "dict") (hd : o.data = .dict es n) (hu : A.units < cLine) : EqAt A s (.str b u) (.ref l) false := fun prog w E Q h => by
  unfold eqBool
  refine wpAny_holding ?_
  refine wpAny_ite_split (fun hab => absurd (eq_of_beq hab) nofun) (fun _ => ?_)
  exact wpAny_bind (RcAt.str_dict b u ho hc hd hu prog w E _ (wpAny_truthy_bool h))
end

/-! ### data that may be compared -/
mutual
def okEq : PyData → Nat → PyData → Bool
  | .none, _, y => (match y with | .dict _ => false | _ => true)
  | .bool _, _, y => (match y with | .dict _ => false | _ => true)
  | .int _, _, y => (match y with | .dict _ => false | _ => true)
  | .str _, _, _ => true
  | .list xs, n, y => (match y with
    | .list ys => (match n with | 0 => false | n + 1 => xs.length != ys.length || okEqA xs n ys)
    | .dict _ => false
    | _ => true)
  | .tuple xs, n, y => (match y with
    | .tuple ys => (match n with | 0 => false | n + 1 => okEqA xs n ys)
    | .dict _ => false
    | _ => true)
  | .dict _, _, _ => false
def okEqA : List PyData → Nat → List PyData → Bool
  | x :: xs, n, y :: ys => okEq x n y && okEqA xs n ys
  | _, _, _ => true
end
theorem okEq_list (xs : List PyData) (n : Nat) (ys : List PyData) : okEq (.list xs) (n + 1) (.list ys) = (xs.length != ys.length || okEqA xs n ys) := by rw [okEq]
theorem okEq_tuple (xs : List PyData) (n : Nat) (ys : List PyData) : okEq (.tuple xs) (n + 1) (.tuple ys) = okEqA xs n ys := by rw [okEq]
theorem okEq_list0 (xs ys : List PyData) : okEq (.list xs) 0 (.list ys) = false := by rw [okEq]
theorem okEq_tuple0 (xs ys : List PyData) : okEq (.tuple xs) 0 (.tuple ys) = false := by rw [okEq]
theorem okEq_dl (x : List (PyData × PyData)) (n : Nat) (y : PyData) : okEq (.dict x) n y = false := by rw [okEq]
theorem okEq_nd (n : Nat) (k : List (PyData × PyData)) : okEq .none n (.dict k) = false := by rw [okEq]
theorem okEq_bd (b : Bool) (n : Nat) (k : List (PyData × PyData)) : okEq (.bool b) n (.dict k) = false := by rw [okEq]
theorem okEq_id (b : Int) (n : Nat) (k : List (PyData × PyData)) : okEq (.int b) n (.dict k) = false := by rw [okEq]
theorem okEq_ld (b : List PyData) (n : Nat) (k : List (PyData × PyData)) : okEq (.list b) n (.dict k) = false := by rw [okEq]
theorem okEq_td (b : List PyData) (n : Nat) (k : List (PyData × PyData)) : okEq (.tuple b) n (.dict k) = false := by rw [okEq]
theorem okEqA_cons (x : PyData) (xs : List PyData) (n : Nat) (y : PyData) (ys : List PyData) : okEqA (x :: xs) n (y :: ys) = (okEq x n y && okEqA xs n ys) := by rw [okEqA]
theorem yn {a : Bool} {P : Prop} (h : a = true) (e : a = false) : P := by rw [e] at h; cases h
mutual
theorem same_eqv {h : Heap} : ∀ (x : PyData) (n : Nat) (y : PyData) (v : Value) (as bs : List Addr), Reads h v x as → Reads h v y bs → okEq x n y = true → PyData.eqv x y = true
  | .none, _, _, _, _, _, ra, rb, _ => by cases ra; cases rb; simp [PyData.eqv]
  | .bool b, _, _, _, _, _, ra, rb, _ => by cases ra; cases rb; simp [PyData.eqv]
  | .int b, _, _, _, _, _, ra, rb, _ => by cases ra; cases rb; simp [PyData.eqv]
  | .str b, _, _, _, _, _, ra, rb, _ => by cases ra; cases rb; simp [PyData.eqv]
  | .list xs, n, y, _, _, _, ra, rb, h => by
    cases ra with
    | @list a o vs m _ as h1 h2 h3 h4 =>
      cases rb with
      | @list _ o' vs' m' ys bs k1 k2 k3 k4 =>
        rw [h1] at k1; cases k1
        rw [h3] at k3
        injection k3 with k3 _
        subst k3
        cases n with
        | zero => exact yn h (okEq_list0 _ _)
        | succ n =>
          have hl : xs.length = ys.length := by
            have := SeqAt.ReadsAll.length _ _ _ h4
            have := SeqAt.ReadsAll.length _ _ _ k4
            omega
          have h' : okEqA xs n ys = true := by
            rw [okEq_list] at h
            simpa [hl] using h
          simp only [PyData.eqv]
          exact same_eqvA xs n ys _ _ _ h4 k4 h'
      | tuple k1 k2 => rw [h1] at k1; cases k1; rw [h2] at k2; simp at k2
      | dict k1 k2 => rw [h1] at k1; cases k1; rw [h2] at k2; simp at k2
  | .tuple xs, n, y, _, _, _, ra, rb, h => by
    cases ra with
    | @tuple a o vs m _ as h1 h2 h3 h4 =>
      cases rb with
      | @tuple _ o' vs' m' ys bs k1 k2 k3 k4 =>
        rw [h1] at k1; cases k1
        rw [h3] at k3
        injection k3 with k3 _
        subst k3
        cases n with
        | zero => exact yn h (okEq_tuple0 _ _)
        | succ n =>
          have h' : okEqA xs n ys = true := by rw [okEq_tuple] at h; exact h
          simp only [PyData.eqv]
          exact same_eqvA xs n ys _ _ _ h4 k4 h'
      | list k1 k2 => rw [h1] at k1; cases k1; rw [h2] at k2; simp at k2
      | dict k1 k2 => rw [h1] at k1; cases k1; rw [h2] at k2; simp at k2
  | .dict _, _, _, _, _, _, _, _, h => yn h (okEq_dl _ _ _)
theorem same_eqvA {h : Heap} : ∀ (xs : List PyData) (n : Nat) (ys : List PyData) (vs : List Value) (as bs : List Addr), ReadsAll h vs xs as → ReadsAll h vs ys bs → okEqA xs n ys = true → PyData.eqvAll xs ys = true
  | [], _, _, _, _, _, ra, rb, _ => by cases ra; cases rb; simp [PyData.eqvAll]
  | x :: xs, n, _, _, _, _, ra, rb, h => by
    cases ra with
    | cons a1 a2 =>
      cases rb with
      | cons b1 b2 =>
        rw [okEqA_cons, Bool.and_eq_true] at h
        have h' := h
        simp only [PyData.eqvAll, Bool.and_eq_true]
        exact ⟨same_eqv x n _ _ _ _ a1 b1 h'.1, same_eqvA xs n _ _ _ _ a2 b2 h'.2⟩
end
mutual
theorem eqAt_ok : ∀ (x : PyData) (n : Nat) (y : PyData) (A : Around) (s : Shared) (v u : Value) (as bs : List Addr), Reads s.heap v x as → Reads s.heap u y bs → okEq x n y = true → A.units + n < cLine → EqAt A s v u (PyData.eqv x y)
  | .none, _, _, A, s, _, _, _, _, ra, rb, h, hu => by
    cases ra
    cases rb with
    | none => exact EqAt.same _
    | bool y => exact EqAt.none_bool y
    | int y u => exact EqAt.none_int y u
    | str y u => exact EqAt.none_str y u
    | list k1 k2 k3 k4 => exact EqAt.none_list ⟨_, k1, k2, _, k3⟩ (by omega)
    | tuple k1 k2 k3 k4 => exact EqAt.none_tuple ⟨_, k1, k2, _, k3⟩ (by omega)
    | dict => exact yn h (okEq_nd _ _)
  | .bool x, _, _, A, s, _, _, _, _, ra, rb, h, hu => by
    cases ra
    cases rb with
    | none => exact EqAt.bool_none x
    | bool y => exact EqAt.bool_bool x y
    | int y u => exact EqAt.bool_int x y u
    | str y u => exact EqAt.bool_str x y u
    | list k1 k2 k3 k4 => exact EqAt.bool_list x ⟨_, k1, k2, _, k3⟩ (by omega)
    | tuple k1 k2 k3 k4 => exact EqAt.bool_tuple x ⟨_, k1, k2, _, k3⟩ (by omega)
    | dict => exact yn h (okEq_bd _ _ _)
  | .int x, _, _, A, s, _, _, _, _, ra, rb, h, hu => by
    cases ra with
    | int _ t =>
      cases rb with
      | none => exact EqAt.int_none x t
      | bool y => exact EqAt.int_bool x t y
      | int y u => exact EqAt.int_int x t y u
      | str y u => exact EqAt.int_str x t y u
      | list k1 k2 k3 k4 => exact EqAt.int_list x t ⟨_, k1, k2, _, k3⟩ (by omega)
      | tuple k1 k2 k3 k4 => exact EqAt.int_tuple x t ⟨_, k1, k2, _, k3⟩ (by omega)
      | dict => exact yn h (okEq_id _ _ _)
  | .str x, _, _, A, s, _, _, _, _, ra, rb, h, hu => by
    cases ra with
    | str _ t =>
      cases rb with
      | none => exact EqAt.str_none x t
      | bool y => exact EqAt.str_bool x t y
      | int y u => exact EqAt.str_int x t y u
      | str y u => exact EqAt.str_str x t y u
      | list k1 k2 k3 k4 => exact EqAt.str_list x t ⟨_, k1, k2, _, k3⟩ (by omega)
      | tuple k1 k2 k3 k4 => exact EqAt.str_tuple x t ⟨_, k1, k2, _, k3⟩ (by omega)
      | dict k1 k2 k3 k4 k5 => exact EqAt.str_dict x t k1 k2 k3 (by omega)
  | .list xs, n, y, A, s, _, _, _, _, ra, rb, h, hu => by
    cases ra with
    | @list l o vs m _ as₁ h1 h2 h3 h4 =>
      have hl : s.heap.IsList l vs := ⟨_, h1, h2, _, h3⟩
      cases rb with
      | none => exact EqAt.list_none hl (by omega)
      | bool y => exact EqAt.list_bool y hl (by omega)
      | int y u => exact EqAt.list_int y u hl (by omega)
      | str y u => exact EqAt.list_str y u hl (by omega)
      | tuple k1 k2 k3 k4 => exact EqAt.list_tuple hl ⟨_, k1, k2, _, k3⟩ (by omega)
      | dict => exact yn h (okEq_ld _ _ _)
      | @list l' o' vs' m' ys bs₁ k1 k2 k3 k4 =>
        have hl' : s.heap.IsList l' vs' := ⟨_, k1, k2, _, k3⟩
        have n1 : vs.size = xs.length := by simpa using SeqAt.ReadsAll.length _ _ _ h4
        have n2 : vs'.size = ys.length := by simpa using SeqAt.ReadsAll.length _ _ _ k4
        cases n with
        | zero => exact yn h (okEq_list0 _ _)
        | succ n =>
          by_cases hll : l = l'
          · subst hll
            have e : PyData.eqv (.list xs) (.list ys) = true := same_eqv (.list xs) (n + 1) (.list ys) _ _ _ (.list h1 h2 h3 h4) (.list k1 k2 k3 k4) h
            rw [e]
            exact EqAt.same _
          · show EqAt A s (.ref l) (.ref l') (PyData.eqv (.list xs) (.list ys))
            simp only [PyData.eqv]
            by_cases hsz : vs.size = vs'.size
            · have h' : okEqA xs n ys = true := by
                have hz : xs.length = ys.length := by omega
                rw [okEq_list] at h
                simpa [hz] using h
              rw [← eqvAll_same_length (by omega : xs.length = ys.length), ← n1]
              refine EqAt.of_refs hll (RcAt.lists hl hl' hsz (by omega) fun j j1 j2 => ?_)
              have := eqAt_okA xs n ys A.in1 s vs.toList vs'.toList _ _ h4 k4 h' (by show A.units + 1 + n < _; omega) j (by simpa using j1) (by simpa using j2)
              simpa using this
            · rw [eqvAll_other_length (by omega : xs.length ≠ ys.length)]
              exact EqAt.of_refs hll (RcAt.lists_lengths hl hl' (by simpa using hsz) (by omega))
  | .tuple xs, n, y, A, s, _, _, _, _, ra, rb, h, hu => by
    cases ra with
    | @tuple l o vs m _ as₁ h1 h2 h3 h4 =>
      have hl : s.heap.IsTuple l vs := ⟨_, h1, h2, _, h3⟩
      cases rb with
      | none => exact EqAt.tuple_none hl (by omega)
      | bool y => exact EqAt.tuple_bool y hl (by omega)
      | int y u => exact EqAt.tuple_int y u hl (by omega)
      | str y u => exact EqAt.tuple_str y u hl (by omega)
      | list k1 k2 k3 k4 => exact EqAt.tuple_list hl ⟨_, k1, k2, _, k3⟩ (by omega)
      | dict => exact yn h (okEq_td _ _ _)
      | @tuple l' o' vs' m' ys bs₁ k1 k2 k3 k4 =>
        have hl' : s.heap.IsTuple l' vs' := ⟨_, k1, k2, _, k3⟩
        have n1 : vs.size = xs.length := by simpa using SeqAt.ReadsAll.length _ _ _ h4
        have n2 : vs'.size = ys.length := by simpa using SeqAt.ReadsAll.length _ _ _ k4
        cases n with
        | zero => exact yn h (okEq_tuple0 _ _)
        | succ n =>
          by_cases hll : l = l'
          · subst hll
            have e : PyData.eqv (.tuple xs) (.tuple ys) = true := same_eqv (.tuple xs) (n + 1) (.tuple ys) _ _ _ (.tuple h1 h2 h3 h4) (.tuple k1 k2 k3 k4) h
            rw [e]
            exact EqAt.same _
          · have h' : okEqA xs n ys = true := by rw [okEq_tuple] at h; exact h
            show EqAt A s (.ref l) (.ref l') (PyData.eqv (.tuple xs) (.tuple ys))
            simp only [PyData.eqv]
            rw [← eqvAll_eq xs ys, ← n1, ← n2]
            refine EqAt.of_refs hll (RcAt.tuples hl hl' (by omega) fun j j1 j2 => ?_)
            have := eqAt_okA xs n ys A.in1 s vs.toList vs'.toList _ _ h4 k4 h' (by show A.units + 1 + n < _; omega) j (by simpa using j1) (by simpa using j2)
            simpa using this
  | .dict _, _, _, _, _, _, _, _, _, _, _, h, _ => yn h (okEq_dl _ _ _)
theorem eqAt_okA : ∀ (xs : List PyData) (n : Nat) (ys : List PyData) (A : Around) (s : Shared) (vs ws : List Value) (as bs : List Addr), ReadsAll s.heap vs xs as → ReadsAll s.heap ws ys bs → okEqA xs n ys = true →
    A.units + n < cLine → ∀ j (h1 : j < vs.length) (h2 : j < ws.length), EqAt A s vs[j] ws[j] (pairEq xs ys j)
  | [], _, _, _, _, _, _, _, _, ra, _, _, _, j, h1, _ => by cases ra; exact absurd h1 (Nat.not_lt_zero _)
  | _ :: _, _, [], _, _, _, _, _, _, _, rb, _, _, j, _, h2 => by cases rb; exact absurd h2 (Nat.not_lt_zero _)
  | x :: xs, n, y :: ys, A, s, _, _, _, _, ra, rb, h, hu, j, h1, h2 => by
    have h' : okEq x n y = true ∧ okEqA xs n ys = true := by rw [okEqA_cons, Bool.and_eq_true] at h; exact h
    cases ra with
    | cons r rs =>
      cases rb with
      | cons r' rs' =>
        cases j with
        | zero => exact eqAt_ok x n y A s _ _ _ _ r r' h'.1 hu
        | succ j => exact eqAt_okA xs n ys A s _ _ _ _ rs rs' h'.2 hu j (Nat.lt_of_succ_lt_succ h1) (Nat.lt_of_succ_lt_succ h2)
end
theorem rcAt_ok {x : PyData} {n : Nat} {y : PyData} {A : Around} {s : Shared} {v u : Value} {as bs : List Addr} (ra : Reads s.heap v x as) (rb : Reads s.heap u y bs) (h : okEq x n y = true) (hu : A.units + n < cLine) : RcAt A s v u (PyData.eqv x y) := by
  cases ra with
  | none =>
    cases rb with
    | none => exact RcAt.none_none
    | bool y => exact RcAt.none_bool y
    | int y u => exact RcAt.none_int y u
    | str y u => exact RcAt.none_str y u
    | list k1 k2 k3 k4 => exact RcAt.none_list ⟨_, k1, k2, _, k3⟩ (by omega)
    | tuple k1 k2 k3 k4 => exact RcAt.none_tuple ⟨_, k1, k2, _, k3⟩ (by omega)
    | dict => exact yn h (okEq_nd _ _)
  | bool x =>
    cases rb with
    | none => exact RcAt.bool_none x
    | bool y => exact RcAt.bool_bool x y
    | int y u => exact RcAt.bool_int x y u
    | str y u => exact RcAt.bool_str x y u
    | list k1 k2 k3 k4 => exact RcAt.bool_list x ⟨_, k1, k2, _, k3⟩ (by omega)
    | tuple k1 k2 k3 k4 => exact RcAt.bool_tuple x ⟨_, k1, k2, _, k3⟩ (by omega)
    | dict => exact yn h (okEq_bd _ _ _)
  | int x t =>
    cases rb with
    | none => exact RcAt.int_none x t
    | bool y => exact RcAt.int_bool x t y
    | int y u => exact RcAt.int_int x t y u
    | str y u => exact RcAt.int_str x t y u
    | list k1 k2 k3 k4 => exact RcAt.int_list x t ⟨_, k1, k2, _, k3⟩ (by omega)
    | tuple k1 k2 k3 k4 => exact RcAt.int_tuple x t ⟨_, k1, k2, _, k3⟩ (by omega)
    | dict => exact yn h (okEq_id _ _ _)
  | str x t =>
    cases rb with
    | none => exact RcAt.str_none x t
    | bool y => exact RcAt.str_bool x t y
    | int y u => exact RcAt.str_int x t y u
    | str y u => exact RcAt.str_str x t y u
    | list k1 k2 k3 k4 => exact RcAt.str_list x t ⟨_, k1, k2, _, k3⟩ (by omega)
    | tuple k1 k2 k3 k4 => exact RcAt.str_tuple x t ⟨_, k1, k2, _, k3⟩ (by omega)
    | dict k1 k2 k3 k4 k5 => exact RcAt.str_dict x t k1 k2 k3 (by omega)
  | @list l o vs m xs as₁ h1 h2 h3 h4 =>
    have hl : s.heap.IsList l vs := ⟨_, h1, h2, _, h3⟩
    cases rb with
    | none => exact RcAt.list_none hl (by omega)
    | bool y => exact RcAt.list_bool y hl (by omega)
    | int y u => exact RcAt.list_int y u hl (by omega)
    | str y u => exact RcAt.list_str y u hl (by omega)
    | tuple k1 k2 k3 k4 => exact RcAt.list_tuple hl ⟨_, k1, k2, _, k3⟩ (by omega)
    | dict => exact yn h (okEq_ld _ _ _)
    | @list l' o' vs' m' ys bs₁ k1 k2 k3 k4 =>
      have hl' : s.heap.IsList l' vs' := ⟨_, k1, k2, _, k3⟩
      have n1 : vs.size = xs.length := by simpa using SeqAt.ReadsAll.length _ _ _ h4
      have n2 : vs'.size = ys.length := by simpa using SeqAt.ReadsAll.length _ _ _ k4
      cases n with
      | zero => exact yn h (okEq_list0 _ _)
      | succ n =>
        show RcAt A s (.ref l) (.ref l') (PyData.eqv (.list xs) (.list ys))
        simp only [PyData.eqv]
        by_cases hsz : vs.size = vs'.size
        · have h' : okEqA xs n ys = true := by
            have hz : xs.length = ys.length := by omega
            rw [okEq_list] at h
            simpa [hz] using h
          rw [← eqvAll_same_length (by omega : xs.length = ys.length), ← n1]
          refine RcAt.lists hl hl' hsz (by omega) fun j j1 j2 => ?_
          have := eqAt_okA xs n ys A.in1 s vs.toList vs'.toList _ _ h4 k4 h' (by show A.units + 1 + n < _; omega) j (by simpa using j1) (by simpa using j2)
          simpa using this
        · rw [eqvAll_other_length (by omega : xs.length ≠ ys.length)]
          exact RcAt.lists_lengths hl hl' (by simpa using hsz) (by omega)
  | @tuple l o vs m xs as₁ h1 h2 h3 h4 =>
    have hl : s.heap.IsTuple l vs := ⟨_, h1, h2, _, h3⟩
    cases rb with
    | none => exact RcAt.tuple_none hl (by omega)
    | bool y => exact RcAt.tuple_bool y hl (by omega)
    | int y u => exact RcAt.tuple_int y u hl (by omega)
    | str y u => exact RcAt.tuple_str y u hl (by omega)
    | list k1 k2 k3 k4 => exact RcAt.tuple_list hl ⟨_, k1, k2, _, k3⟩ (by omega)
    | dict => exact yn h (okEq_td _ _ _)
    | @tuple l' o' vs' m' ys bs₁ k1 k2 k3 k4 =>
      have hl' : s.heap.IsTuple l' vs' := ⟨_, k1, k2, _, k3⟩
      have n1 : vs.size = xs.length := by simpa using SeqAt.ReadsAll.length _ _ _ h4
      have n2 : vs'.size = ys.length := by simpa using SeqAt.ReadsAll.length _ _ _ k4
      cases n with
      | zero => exact yn h (okEq_tuple0 _ _)
      | succ n =>
        have h' : okEqA xs n ys = true := by rw [okEq_tuple] at h; exact h
        show RcAt A s (.ref l) (.ref l') (PyData.eqv (.tuple xs) (.tuple ys))
        simp only [PyData.eqv]
        rw [← eqvAll_eq xs ys, ← n1, ← n2]
        refine RcAt.tuples hl hl' (by omega) fun j j1 j2 => ?_
        have := eqAt_okA xs n ys A.in1 s vs.toList vs'.toList _ _ h4 k4 h' (by show A.units + 1 + n < _; omega) j (by simpa using j1) (by simpa using j2)
        simpa using this
  | dict => exact yn h (okEq_dl _ _ _)
end VL

/-! VL4: what values read as; == != in, is, order, isinstance, repr by data. -/
namespace VL
open PySem PySem.Spec PySem.SeqAt
theorem rcNeAt_ok {x : PyData} {n : Nat} {y : PyData} {A : Around} {s : Shared} {v u : Value} {as bs : List Addr} (ra : Reads s.heap v x as) (rb : Reads s.heap u y bs) (h : okEq x n y = true) (hsd : ∀ a k, ¬ (x = .str a ∧ y = .dict k)) (hu : A.units + n < cLine) : RcNeAt A s v u (!PyData.eqv x y) := by
  cases ra with
  | none =>
    cases rb with
    | none => exact RcNeAt.none_none
    | bool y => exact RcNeAt.none_bool y
    | int y u => exact RcNeAt.none_int y u
    | str y u => exact RcNeAt.none_str y u
    | list k1 k2 k3 k4 => exact RcNeAt.none_list ⟨_, k1, k2, _, k3⟩ (by omega)
    | tuple k1 k2 k3 k4 => exact RcNeAt.none_tuple ⟨_, k1, k2, _, k3⟩ (by omega)
    | dict => exact yn h (okEq_nd _ _)
  | bool x =>
    cases rb with
    | none => exact RcNeAt.bool_none x
    | bool y => exact RcNeAt.bool_bool x y
    | int y u => exact RcNeAt.bool_int x y u
    | str y u => exact RcNeAt.bool_str x y u
    | list k1 k2 k3 k4 => exact RcNeAt.bool_list x ⟨_, k1, k2, _, k3⟩ (by omega)
    | tuple k1 k2 k3 k4 => exact RcNeAt.bool_tuple x ⟨_, k1, k2, _, k3⟩ (by omega)
    | dict => exact yn h (okEq_bd _ _ _)
  | int x t =>
    cases rb with
    | none => exact RcNeAt.int_none x t
    | bool y => exact RcNeAt.int_bool x t y
    | int y u => exact RcNeAt.int_int x t y u
    | str y u => exact RcNeAt.int_str x t y u
    | list k1 k2 k3 k4 => exact RcNeAt.int_list x t ⟨_, k1, k2, _, k3⟩ (by omega)
    | tuple k1 k2 k3 k4 => exact RcNeAt.int_tuple x t ⟨_, k1, k2, _, k3⟩ (by omega)
    | dict => exact yn h (okEq_id _ _ _)
  | str x t =>
    cases rb with
    | none => exact RcNeAt.str_none x t
    | bool y => exact RcNeAt.str_bool x t y
    | int y u => exact RcNeAt.str_int x t y u
    | str y u => exact RcNeAt.str_str x t y u
    | list k1 k2 k3 k4 => exact RcNeAt.str_list x t ⟨_, k1, k2, _, k3⟩ (by omega)
    | tuple k1 k2 k3 k4 => exact RcNeAt.str_tuple x t ⟨_, k1, k2, _, k3⟩ (by omega)
    | dict => exact (hsd _ _ ⟨rfl, rfl⟩).elim
  | @list l o vs m xs as₁ h1 h2 h3 h4 =>
    have hl : s.heap.IsList l vs := ⟨_, h1, h2, _, h3⟩
    cases rb with
    | none => exact RcNeAt.list_none hl (by omega)
    | bool y => exact RcNeAt.list_bool y hl (by omega)
    | int y u => exact RcNeAt.list_int y u hl (by omega)
    | str y u => exact RcNeAt.list_str y u hl (by omega)
    | tuple k1 k2 k3 k4 => exact RcNeAt.list_tuple hl ⟨_, k1, k2, _, k3⟩ (by omega)
    | dict => exact yn h (okEq_ld _ _ _)
    | @list l' o' vs' m' ys bs₁ k1 k2 k3 k4 =>
      have hl' : s.heap.IsList l' vs' := ⟨_, k1, k2, _, k3⟩
      have n1 : vs.size = xs.length := by simpa using SeqAt.ReadsAll.length _ _ _ h4
      have n2 : vs'.size = ys.length := by simpa using SeqAt.ReadsAll.length _ _ _ k4
      cases n with
      | zero => exact yn h (okEq_list0 _ _)
      | succ n =>
        show RcNeAt A s (.ref l) (.ref l') (!PyData.eqv (.list xs) (.list ys))
        simp only [PyData.eqv]
        by_cases hsz : vs.size = vs'.size
        · have h' : okEqA xs n ys = true := by
            have hz : xs.length = ys.length := by omega
            rw [okEq_list] at h
            simpa [hz] using h
          rw [← eqvAll_same_length (by omega : xs.length = ys.length), ← n1]
          refine RcNeAt.lists hl hl' hsz (by omega) fun j j1 j2 => ?_
          have := eqAt_okA xs n ys A.in1 s vs.toList vs'.toList _ _ h4 k4 h' (by show A.units + 1 + n < _; omega) j (by simpa using j1) (by simpa using j2)
          simpa using this
        · rw [eqvAll_other_length (by omega : xs.length ≠ ys.length)]
          exact RcNeAt.lists_lengths hl hl' (by simpa using hsz) (by omega)
  | @tuple l o vs m xs as₁ h1 h2 h3 h4 =>
    have hl : s.heap.IsTuple l vs := ⟨_, h1, h2, _, h3⟩
    cases rb with
    | none => exact RcNeAt.tuple_none hl (by omega)
    | bool y => exact RcNeAt.tuple_bool y hl (by omega)
    | int y u => exact RcNeAt.tuple_int y u hl (by omega)
    | str y u => exact RcNeAt.tuple_str y u hl (by omega)
    | list k1 k2 k3 k4 => exact RcNeAt.tuple_list hl ⟨_, k1, k2, _, k3⟩ (by omega)
    | dict => exact yn h (okEq_td _ _ _)
    | @tuple l' o' vs' m' ys bs₁ k1 k2 k3 k4 =>
      have hl' : s.heap.IsTuple l' vs' := ⟨_, k1, k2, _, k3⟩
      have n1 : vs.size = xs.length := by simpa using SeqAt.ReadsAll.length _ _ _ h4
      have n2 : vs'.size = ys.length := by simpa using SeqAt.ReadsAll.length _ _ _ k4
      cases n with
      | zero => exact yn h (okEq_tuple0 _ _)
      | succ n =>
        have h' : okEqA xs n ys = true := by rw [okEq_tuple] at h; exact h
        show RcNeAt A s (.ref l) (.ref l') (!PyData.eqv (.tuple xs) (.tuple ys))
        simp only [PyData.eqv]
        rw [← eqvAll_eq xs ys, ← n1, ← n2]
        refine RcNeAt.tuples hl hl' (by omega) fun j j1 j2 => ?_
        have := eqAt_okA xs n ys A.in1 s vs.toList vs'.toList _ _ h4 k4 h' (by show A.units + 1 + n < _; omega) j (by simpa using j1) (by simpa using j2)
        simpa using this
  | dict => exact yn h (okEq_dl _ _ _)

/-! ### one value, one datum -/
mutual
theorem reads_one {h : Heap} : ∀ (d d' : PyData) (v : Value) (as bs : List Addr), Reads h v d as → Reads h v d' bs → d = d'
  | .none, _, _, _, _, ra, rb => by cases ra; cases rb; rfl
  | .bool _, _, _, _, _, ra, rb => by cases ra; cases rb; rfl
  | .int _, _, _, _, _, ra, rb => by cases ra; cases rb; rfl
  | .str _, _, _, _, _, ra, rb => by cases ra; cases rb; rfl
  | .list xs, _, _, _, _, ra, rb => by
    cases ra with
    | list h1 h2 h3 h4 =>
      cases rb with
      | list k1 k2 k3 k4 =>
        rw [h1] at k1; cases k1
        rw [h3] at k3
        injection k3 with k3 _
        subst k3
        rw [readsAll_one xs _ _ _ _ h4 k4]
      | tuple k1 k2 => rw [h1] at k1; cases k1; rw [h2] at k2; simp at k2
      | dict k1 k2 => rw [h1] at k1; cases k1; rw [h2] at k2; simp at k2
  | .tuple xs, _, _, _, _, ra, rb => by
    cases ra with
    | tuple h1 h2 h3 h4 =>
      cases rb with
      | tuple k1 k2 k3 k4 =>
        rw [h1] at k1; cases k1
        rw [h3] at k3
        injection k3 with k3 _
        subst k3
        rw [readsAll_one xs _ _ _ _ h4 k4]
      | list k1 k2 => rw [h1] at k1; cases k1; rw [h2] at k2; simp at k2
      | dict k1 k2 => rw [h1] at k1; cases k1; rw [h2] at k2; simp at k2
  | .dict kvs, _, _, _, _, ra, rb => by
    cases ra with
    | dict h1 h2 h3 h4 h5 =>
      cases rb with
      | dict k1 k2 k3 k4 k5 =>
        rw [h1] at k1; cases k1
        rw [h3] at k3
        injection k3 with k3 _
        subst k3
        rw [readsKv_one kvs _ _ _ _ _ _ _ h4 h5 k4 k5]
      | list k1 k2 => rw [h1] at k1; cases k1; rw [h2] at k2; simp at k2
      | tuple k1 k2 => rw [h1] at k1; cases k1; rw [h2] at k2; simp at k2
theorem readsAll_one {h : Heap} : ∀ (ds ds' : List PyData) (vs : List Value) (as bs : List Addr), ReadsAll h vs ds as → ReadsAll h vs ds' bs → ds = ds'
  | [], _, _, _, _, ra, rb => by cases ra; cases rb; rfl
  | d :: ds, _, _, _, _, ra, rb => by
    cases ra with
    | cons a1 a2 =>
      cases rb with
      | cons b1 b2 => rw [reads_one d _ _ _ _ a1 b1, readsAll_one ds _ _ _ _ a2 b2]
theorem readsKv_one {h : Heap} : ∀ (kvs kvs' : List (PyData × PyData)) (ks vs : List Value) (as bs as' bs' : List Addr), ReadsAll h ks (kvs.map (·.1)) as → ReadsAll h vs (kvs.map (·.2)) bs → ReadsAll h ks (kvs'.map (·.1)) as' → ReadsAll h vs (kvs'.map (·.2)) bs' → kvs = kvs'
  | [], [], _, _, _, _, _, _, _, _, _, _ => rfl
  | [], p :: r, _, _, _, _, _, _, ra, _, rb, _ => by
    rw [List.map_nil] at ra
    rw [List.map_cons] at rb
    cases ra; cases rb
  | (a, b) :: r, [], _, _, _, _, _, _, ra, _, rb, _ => by
    rw [List.map_nil] at rb
    rw [List.map_cons] at ra
    cases rb; cases ra
  | (a, b) :: r, (a', b') :: r', _, _, _, _, _, _, ra, sa, rb, sb => by
    rw [List.map_cons] at ra sa rb sb
    cases ra with
    | cons x1 x2 =>
      cases sa with
      | cons y1 y2 =>
        cases rb with
        | cons z1 z2 =>
          cases sb with
          | cons w1 w2 => rw [show a = a' from reads_one a a' _ _ _ x1 z1, show b = b' from reads_one b b' _ _ _ y1 w1, readsKv_one r r' _ _ _ _ _ _ x2 y2 z2 w2]
end

/-! ### values read -/
mutual
def noList : PyData → Bool
  | .list _ => false
  | .tuple xs => noListA xs
  | .dict kvs => noListK kvs
  | _ => true
def noListA : List PyData → Bool
  | [] => true
  | x :: xs => noList x && noListA xs
def noListK : List (PyData × PyData) → Bool
  | [] => true
  | (a, b) :: r => noList a && noList b && noListK r
end
open PyProof.Rows L2
section
variable {X : Cx} {pins : List (Addr × Obj)} {σ : L2.St} {H B : Hp} {s : Shared}
theorem keys_reads {ks : List Key} {us : List Value} {h : Heap} : Vals (ks.map kV) us → ∃ as, ReadsAll h us (ks.map kD) as ∧ as = [] := by
  induction ks generalizing us with
  | nil => intro r; cases r; exact ⟨_, .nil, rfl⟩
  | cons k ks ih =>
    intro r
    rw [List.map_cons] at r
    cases r with
    | cons r1 r2 =>
      obtain ⟨as, h1, rfl⟩ := ih r2
      cases k with
      | inl i => obtain ⟨t, rfl⟩ := r1; exact ⟨_, .cons (.int i t) h1, rfl⟩
      | inr x => obtain ⟨t, rfl⟩ := r1; exact ⟨_, .cons (.str x t) h1, rfl⟩
mutual
theorem Rp.reads (I : Inv X pins σ H s) (sb : Same B H) : ∀ {v : V} {d : PyData} (u : Value), Rp B v d → RelV v u → ∃ as, Reads s.heap u d as ∧ (noList d = true → sysModules ∉ as)
  | _, _, _, .non, r => by cases r; exact ⟨_, .none, fun _ z => nomatch z⟩
  | _, _, _, .bl b, r => by cases r; exact ⟨_, .bool b, fun _ z => nomatch z⟩
  | _, _, _, .int i, r => by obtain ⟨t, rfl⟩ := r; exact ⟨_, .int i t, fun _ z => nomatch z⟩
  | _, _, _, .str x, r => by obtain ⟨t, rfl⟩ := r; exact ⟨_, .str x t, fun _ z => nomatch z⟩
  | _, _, _, .lst e a, r => by
    cases r
    obtain ⟨z, its, n, rv, ho⟩ := I.hok _ _ (sb _ _ e)
    obtain ⟨as, h1, _⟩ := RpA.reads I sb its a rv
    exact ⟨_, .list ho rfl rfl h1, fun z => by simp [noList] at z⟩
  | _, _, _, .tup e a, r => by
    cases r
    obtain ⟨z, its, rv, o, ho, hc, n, hd⟩ := I.hok _ _ (sb _ _ e)
    obtain ⟨as, h1, h2⟩ := RpA.reads I sb its a rv
    exact ⟨_, .tuple ho hc hd h1, fun z => h2 (by simpa [noList] using z)⟩
  | _, _, _, .dik (a := a) e ra, r => by
    cases r
    obtain ⟨z, hs, vs, kv, o, es, ep, ho, hx, hd, _, hes, _⟩ := I.hok _ _ (sb _ _ e)
    obtain ⟨bs, k1, k2, k3⟩ := RpE.reads I sb es.toList vs ra kv hes
    refine ⟨_, .dict ho hx.1 hd k1 k2, fun z => ?_⟩
    have z' := k3 (by simpa [noList] using z)
    have ne : sysModules ≠ a := fun q => by
      have := hs
      rw [← q] at this
      simp at this
    simpa [ne] using z'
  | _, _, _, .dit (a := a) e ra _, r => by
    cases r
    obtain ⟨z, hs, xs, kv, o, es, ep, ho, hx, hd, hes, _⟩ := I.hok _ _ (sb _ _ e)
    obtain ⟨bs, k1, k2, k3⟩ := RpT.reads I sb xs ra kv
    have e1 : es.toList.map (·.key) = xs.map fun x => Value.ref x.2.1 := by rw [hes, List.map_map]; rfl
    have e2 : es.toList.map (·.val) = xs.map (·.2.2) := by rw [hes, List.map_map]; rfl
    rw [← e1] at k1
    rw [← e2] at k2
    refine ⟨_, .dict ho hx.1 hd k1 k2, fun z => ?_⟩
    have z' := k3 (by simpa [noList] using z)
    have ne : sysModules ≠ a := fun q => by
      have := hs
      rw [← q] at this
      simp at this
    simpa [ne] using z'
theorem RpE.reads (I : Inv X pins σ H s) (sb : Same B H) : ∀ {kvs : List (Key × V)} {es : List (PyData × PyData)} (des : List DictEntry) (vs : List (Key × Value)), RpE B kvs es → KV kvs vs → Pairs (mixKind X.prog X.w) des vs →
    ∃ bs, ReadsAll s.heap (des.map (·.key)) (es.map (·.1)) [] ∧ ReadsAll s.heap (des.map (·.val)) (es.map (·.2)) bs ∧ (noListK es = true → sysModules ∉ bs)
  | _, _, _, _, .nil, r, p => by
    cases r
    cases p
    exact ⟨[], .nil, .nil, fun _ z => nomatch z⟩
  | _, _, _, _, .cons (k := k) (d := d) (es := es) a ra, r, p => by
    cases r with
    | cons r1 r2 =>
      cases p with
      | @cons e0 kv0 es0 kvs0 p1 p2 p3 =>
        obtain ⟨bs, h1, h2, h3⟩ := RpE.reads I sb _ _ ra r2 p3
        obtain ⟨r1a, r1b⟩ := r1
        rw [← p2] at r1b
        obtain ⟨as, g1, g2⟩ := Rp.reads I sb _ a r1b
        have kk : ∃ as0, Reads s.heap e0.key (kD k) as0 ∧ as0 = [] := by
          rw [← r1a] at p1
          rcases keyIs_shape (show keyIs k _ = true from p1) with ⟨i, t, ek, ev⟩ | ⟨z, t, ek, ev⟩
          · rw [ev, ek]; exact ⟨_, .int i t, rfl⟩
          · rw [ev, ek]; exact ⟨_, .str z t, rfl⟩
        obtain ⟨as0, q1, rfl⟩ := kk
        refine ⟨_, .cons q1 h1, .cons g1 h2, fun z => ?_⟩
        have z' : (noList (kD k) = true ∧ noList d = true) ∧ noListK es = true := by simpa [noListK] using z
        rw [List.mem_append]
        exact fun q => q.elim (g2 z'.1.2) (h3 z'.2)
theorem RpT.reads (I : Inv X pins σ H s) (sb : Same B H) : ∀ {kvs : List (List Key × V)} {es : List (PyData × PyData)} (xs : List (List Key × Addr × Value)), RpT B kvs es →
    Paired (fun (p : List Key × V) (q : List Key × Addr × Value) => p.1 = q.1 ∧ H q.2.1 = some (.tup (p.1.map kV)) ∧ RelV p.2 q.2.2) kvs xs →
    ∃ bs, ReadsAll s.heap (xs.map fun x => Value.ref x.2.1) (es.map (·.1)) [] ∧ ReadsAll s.heap (xs.map (·.2.2)) (es.map (·.2)) bs ∧ (noListK es = true → sysModules ∉ bs)
  | _, _, _, .nil, r => by
    cases r
    exact ⟨[], .nil, .nil, fun _ z => nomatch z⟩
  | _, _, _, .cons (k := k) (d := d) (es := es) a ra, r => by
    cases r with
    | cons r1 r2 =>
      obtain ⟨bs, h1, h2, h3⟩ := RpT.reads I sb _ ra r2
      obtain ⟨r1a, r1b, r1c⟩ := r1
      obtain ⟨as, g1, g2⟩ := Rp.reads I sb _ a r1c
      obtain ⟨_, its, rv, o, ho, hc, n, hd⟩ := I.hok _ _ r1b
      obtain ⟨as0, q1, rfl⟩ := keys_reads (h := s.heap) rv
      have q2 : ReadsAll s.heap its.toArray.toList (k.map kD) [] := by simpa using q1
      refine ⟨_, .cons (.tuple ho hc hd q2) h1, .cons g1 h2, fun z => ?_⟩
      have z' : (noList (.tuple (k.map kD)) = true ∧ noList d = true) ∧ noListK es = true := by simpa [noListK] using z
      rw [List.mem_append]
      exact fun q => q.elim (g2 z'.1.2) (h3 z'.2)
theorem RpA.reads (I : Inv X pins σ H s) (sb : Same B H) : ∀ {vs : List V} {ds : List PyData} (us : List Value), RpA B vs ds → Vals vs us → ∃ as, ReadsAll s.heap us ds as ∧ (noListA ds = true → sysModules ∉ as)
  | _, _, _, .nil, r => by cases r; exact ⟨_, .nil, fun _ z => nomatch z⟩
  | _, _, _, .cons (d := d) (ds := ds) a ra, r => by
    cases r with
    | cons r1 r2 =>
      obtain ⟨as, h1, h2⟩ := Rp.reads I sb _ a r1
      obtain ⟨bs, k1, k2⟩ := RpA.reads I sb _ ra r2
      refine ⟨_, .cons h1 k1, fun z => ?_⟩
      have z' : noList d = true ∧ noListA ds = true := by simpa [noListA] using z
      rw [List.mem_append]
      exact fun q => q.elim (h2 z'.1) (k2 z'.2)
end
theorem same_upd' {B H : Hp} {p : Addr} {x : HO} (sb : Same B H) (hx : H p = some x) : Same B (upd B p x) := fun a o e => by
  by_cases ha : a = p
  · subst ha
    have := sb _ _ e
    rw [hx] at this
    cases this
    exact upd_same
  · rw [upd_ne ha]; exact e
theorem Wk.reads (I : Inv X pins σ H s) (sb : Same B H) {v : V} {d : PyData} {u : Value} (w : Wk B H v d) (r : RelV v u) : ∃ as, Reads s.heap u d as ∧ (noList d = true → sysModules ∉ as) := by
  rcases w with w | ⟨p, rfl, w⟩
  · exact Rp.reads I sb u w r
  · obtain ⟨x, hx⟩ := w.there
    have w' : Rp (upd B p x) (.ref p) d := OwnRp.freeze (same_upd' sb hx) (fun o e => by rw [hx] at e; cases e; exact upd_same) w
    exact Rp.reads I (fun a o e => by
      by_cases ha : a = p
      · subst ha; rw [upd_same] at e; cases e; exact hx
      · rw [upd_ne ha] at e; exact sb _ _ e) u w' r
end

/-! ### the operations -/
section
variable {X : Cx}
def eqD (a b : PyData) : Option PyData := if okEq a 60 b = true then some (.bool (PyData.eqv a b)) else none
def neD (a b : PyData) : Option PyData := match a, b with
  | .str _, .dict _ => none
  | a, b => if okEq a 60 b = true then some (.bool (!PyData.eqv a b)) else none
theorem neD_some {a b d : PyData} (h : neD a b = some d) : okEq a 60 b = true ∧ d = .bool (!PyData.eqv a b) ∧ ∀ x k, ¬ (a = .str x ∧ b = .dict k) := by
  unfold neD at h
  split at h
  · cases h
  · rename_i hn
    by_cases hc : okEq a 60 b = true
    · rw [if_pos hc] at h
      cases h
      exact ⟨hc, rfl, fun x k ⟨e1, e2⟩ => hn x k e1 e2⟩
    · rw [if_neg hc] at h; cases h
theorem oeq (hu : X.A.units + 64 < cLine) : OpR X (compareOp .Eq) (r2 eqD) := by
  intro pins s σ H x y v u Q I rx ry ⟨B, a, b, d, sb, wa, wb, e, q⟩
  obtain ⟨as, ra, _⟩ := wa.reads I sb rx
  obtain ⟨bs, rb, _⟩ := wb.reads I sb ry
  unfold eqD at e
  by_cases hc : okEq a 60 b = true
  · rw [if_pos hc] at e
    cases e
    exact rcAt_ok ra rb hc (by omega) X.prog X.w _ _ ⟨.bl _, H, I, rfl, q _ H B (.refl sb) (.bl _)⟩
  · rw [if_neg hc] at e; cases e
theorem one (hu : X.A.units + 64 < cLine) : OpR X (compareOp .NotEq) (r2 neD) := by
  intro pins s σ H x y v u Q I rx ry ⟨B, a, b, d, sb, wa, wb, e, q⟩
  obtain ⟨as, ra, _⟩ := wa.reads I sb rx
  obtain ⟨bs, rb, _⟩ := wb.reads I sb ry
  obtain ⟨hc, rfl, hn⟩ := neD_some e
  exact rcNeAt_ok ra rb hc hn (by omega) X.prog X.w _ _ ⟨.bl _, H, I, rfl, q _ H B (.refl sb) (.bl _)⟩
/-- x in c -/
def inA (x : PyData) (ys : List PyData) : Option PyData := if ys.all (fun y => okEq y 60 x) = true then some (.bool (ys.any fun y => PyData.eqv y x)) else none
def inD (x c : PyData) : Option PyData := match c with
  | .list ys => inA x ys
  | .tuple ys => inA x ys
  | .dict es => (lookD es x).map fun o => .bool o.isSome
  | _ => none
def notD : PyData → PyData
  | .bool b => .bool !b
  | d => d
def notInD (x c : PyData) : Option PyData := (inD x c).map notD
/-- how each item compares -/
noncomputable def itemEq (h : Heap) (x : PyData) (ys : List PyData) (v : Value) : Bool := open Classical in if q : ∃ d, d ∈ ys ∧ ∃ as, Reads h v d as then PyData.eqv q.choose x else false
theorem itemEq_at {h : Heap} {x : PyData} {ys : List PyData} {v : Value} {d : PyData} {as : List Addr} (hd : d ∈ ys) (r : Reads h v d as) : itemEq h x ys v = PyData.eqv d x := by
  have q : ∃ d, d ∈ ys ∧ ∃ as, Reads h v d as := ⟨d, hd, as, r⟩
  unfold itemEq
  rw [dif_pos q]
  obtain ⟨_, as', h2⟩ := q.choose_spec
  rw [reads_one _ _ _ _ _ h2 r]
theorem readsAll_mem {h : Heap} : ∀ {ds : List PyData} {vs : List Value} {as : List Addr} {v : Value}, ReadsAll h vs ds as → v ∈ vs → ∃ d as', d ∈ ds ∧ Reads h v d as'
  | [], _, _, _, r, hv => by cases r; cases hv
  | d :: ds, _, _, v, r, hv => by
    cases r with
    | cons a b =>
      rcases List.mem_cons.mp hv with rfl | hv
      · exact ⟨d, _, List.mem_cons_self, a⟩
      · obtain ⟨d', as', h1, h2⟩ := readsAll_mem b hv
        exact ⟨d', as', List.mem_cons_of_mem _ h1, h2⟩
theorem any_item {h : Heap} {x : PyData} {zs : List PyData} : ∀ {ds : List PyData} {vs : List Value} {as : List Addr}, ReadsAll h vs ds as → (∀ d ∈ ds, d ∈ zs) → vs.any (itemEq h x zs) = ds.any fun y => PyData.eqv y x
  | [], _, _, r, _ => by cases r; rfl
  | d :: ds, _, _, r, hz => by
    cases r with
    | cons a b =>
      rw [List.any_cons, List.any_cons, any_item b fun d hd => hz d (List.mem_cons_of_mem _ hd), itemEq_at (hz d List.mem_cons_self) a]
theorem oin (hu : X.A.units + 64 < cLine) : OpR X (compareOp .In) (r2 inD) := by
  intro pins s σ H x y v u Q I rx ry ⟨B, a, b, d, sb, wa, wb, e, q⟩
  obtain ⟨as, ra, _⟩ := wa.reads I sb rx
  obtain ⟨bs, rb, _⟩ := wb.reads I sb ry
  have seq : ∀ (vs : Array Value) (ys : List PyData) (cs : List Addr), ReadsAll s.heap vs.toList ys cs → inA a ys = some d → (∀ y, y ∈ vs → EqAt X.A.in1 s y v (itemEq s.heap a ys y)) ∧ d = .bool (vs.any (itemEq s.heap a ys)) := fun vs ys cs r e => by
    unfold inA at e
    by_cases hc : ys.all (fun y => okEq y 60 a) = true
    · rw [if_pos hc] at e
      cases e
      refine ⟨fun y hy => ?_, by rw [← Array.any_toList, any_item r fun _ z => z]⟩
      obtain ⟨dy, as', h1, h2⟩ := readsAll_mem r (Array.mem_toList_iff.mpr hy)
      rw [itemEq_at h1 h2]
      exact eqAt_ok dy 60 a _ s y v _ _ h2 ra (List.all_eq_true.mp hc dy h1) (by show X.A.units + 1 + 60 < _; omega)
    · rw [if_neg hc] at e; cases e
  cases b with
  | list ys =>
    cases rb with
    | list h1 h2 h3 h4 =>
      obtain ⟨k1, rfl⟩ := seq _ _ _ h4 e
      exact in_listAt _ ⟨_, h1, h2, _, h3⟩ k1 ⟨.bl _, H, I, rfl, q _ H B (.refl sb) (.bl _)⟩
  | tuple ys =>
    cases rb with
    | tuple h1 h2 h3 h4 =>
      obtain ⟨k1, rfl⟩ := seq _ _ _ h4 e
      exact in_tupleAt _ ⟨_, h1, h2, _, h3⟩ k1 ⟨.bl _, H, I, rfl, q _ H B (.refl sb) (.bl _)⟩
  | dict es =>
    obtain ⟨o, eo, ed⟩ := Option.map_eq_some_iff.mp (show (lookD es a).map (fun o => PyData.bool o.isSome) = some d from e)
    obtain ⟨p, r, rfl, hr, h⟩ := dget_of sb wb wa eo
    cases ry
    have hs : r.isSome = o.isSome := by
      rcases h with ⟨h1, h2⟩ | ⟨d', v', h1, h2, h3⟩
      · rw [h1, h2]; rfl
      · rw [h1, h2]; rfl
    refine d_in (by omega) I hr rx fun s3 I3 => ⟨.bl r.isSome, H, I3, rfl, ?_⟩
    rw [hs]
    subst ed
    exact q _ H B (.refl sb) (.bl _)
  | _ => cases e
theorem onotin (hu : X.A.units + 64 < cLine) : OpR X (compareOp .NotIn) (r2 notInD) := by
  intro pins s σ H x y v u Q I rx ry ⟨B, a, b, d, sb, wa, wb, e, q⟩
  obtain ⟨as, ra, _⟩ := wa.reads I sb rx
  obtain ⟨bs, rb, _⟩ := wb.reads I sb ry
  obtain ⟨d0, e0, rfl⟩ := Option.map_eq_some_iff.mp (show (inD a b).map notD = some d from e)
  have seq : ∀ (vs : Array Value) (ys : List PyData) (cs : List Addr), ReadsAll s.heap vs.toList ys cs → inA a ys = some d0 → (∀ y, y ∈ vs → EqAt X.A.in1 s y v (itemEq s.heap a ys y)) ∧ d0 = .bool (vs.any (itemEq s.heap a ys)) := fun vs ys cs r e => by
    unfold inA at e
    by_cases hc : ys.all (fun y => okEq y 60 a) = true
    · rw [if_pos hc] at e
      cases e
      refine ⟨fun y hy => ?_, by rw [← Array.any_toList, any_item r fun _ z => z]⟩
      obtain ⟨dy, as', h1, h2⟩ := readsAll_mem r (Array.mem_toList_iff.mpr hy)
      rw [itemEq_at h1 h2]
      exact eqAt_ok dy 60 a _ s y v _ _ h2 ra (List.all_eq_true.mp hc dy h1) (by show X.A.units + 1 + 60 < _; omega)
    · rw [if_neg hc] at e; cases e
  cases b with
  | list ys =>
    cases rb with
    | list h1 h2 h3 h4 =>
      obtain ⟨k1, rfl⟩ := seq _ _ _ h4 e0
      exact notIn_listAt _ ⟨_, h1, h2, _, h3⟩ k1 ⟨.bl _, H, I, rfl, q _ H B (.refl sb) (.bl _)⟩
  | tuple ys =>
    cases rb with
    | tuple h1 h2 h3 h4 =>
      obtain ⟨k1, rfl⟩ := seq _ _ _ h4 e0
      exact notIn_tupleAt _ ⟨_, h1, h2, _, h3⟩ k1 ⟨.bl _, H, I, rfl, q _ H B (.refl sb) (.bl _)⟩
  | dict es =>
    obtain ⟨o, eo, ed⟩ := Option.map_eq_some_iff.mp (show (lookD es a).map (fun o => PyData.bool o.isSome) = some d0 from e0)
    obtain ⟨p, r, rfl, hr, h⟩ := dget_of sb wb wa eo
    cases ry
    have hs : r.isSome = o.isSome := by
      rcases h with ⟨h1, h2⟩ | ⟨d', v', h1, h2, h3⟩
      · rw [h1, h2]; rfl
      · rw [h1, h2]; rfl
    refine d_notIn (by omega) I hr rx fun s3 I3 => ⟨.bl (!r.isSome), H, I3, rfl, ?_⟩
    rw [hs]
    subst ed
    exact q _ H B (.refl sb) (.bl _)
  | _ => cases e0

/-! ### is -/
def isNon : PyData → Bool
  | .none => true
  | _ => false
def isND (a b : PyData) : Option PyData := match b with
  | .none => some (.bool (isNon a))
  | .bool k => (match a with | .bool j => some (.bool (decide (j = k))) | _ => none)
  | _ => none
def isNotD (a b : PyData) : Option PyData := (isND a b).map notD
theorem Wk.isNon {B H : Hp} {v : V} {a : PyData} (w : Wk B H v a) : decide (v = .non) = isNon a := by
  rcases w with w | ⟨p, rfl, w⟩
  · cases w <;> rfl
  · cases a with
    | none => exact w.elim
    | _ => rfl
theorem ois : OpR X (compareOp .Is) (r2 isND) := by
  intro pins s σ H x y v u Q I rx ry ⟨B, a, b, d, sb, wa, wb, e, q⟩
  cases b with
  | none =>
    obtain rfl := wb.non
    cases e
    refine op_isN pins s σ H _ _ v u Q I rx ry ⟨rfl, ?_⟩
    rw [wa.isNon]
    exact q _ H B (.refl sb) (.bl _)
  | bool k =>
    cases a with
    | bool j =>
      obtain rfl := wb.bl
      obtain rfl := wa.bl
      cases e
      exact op_is_bl pins s σ H _ _ v u Q I rx ry ⟨j, k, rfl, rfl, q _ H B (.refl sb) (.bl _)⟩
    | _ => cases e
  | _ => cases e
theorem oisnot : OpR X (compareOp .IsNot) (r2 isNotD) := by
  intro pins s σ H x y v u Q I rx ry ⟨B, a, b, d, sb, wa, wb, e, q⟩
  cases b with
  | none =>
    obtain rfl := wb.non
    cases e
    refine op_notN pins s σ H _ _ v u Q I rx ry ⟨rfl, ?_⟩
    rw [wa.isNon]
    exact q _ H B (.refl sb) (.bl _)
  | bool k =>
    cases a with
    | bool j =>
      obtain rfl := wb.bl
      obtain rfl := wa.bl
      cases e
      exact op_isnot_bl pins s σ H _ _ v u Q I rx ry ⟨j, k, rfl, rfl, q _ H B (.refl sb) (.bl _)⟩
    | _ => cases e
  | _ => cases e

/-! ### order -/
def cmpD (p : Int → Int → Bool) (r : PyData → PyData → Bool) (a b : PyData) : Option PyData := match a, b with
  | .int i, .int j => some (.bool (p i j))
  | a, b => if W.alike a b = true ∧ noneIs a = false ∧ min a.depth b.depth ≤ 60 then some (.bool (r a b)) else none
where noneIs : PyData → Bool
  | .none => true
  | _ => false
def ltD : PyData → PyData → Option PyData := cmpD (fun i j => decide (i < j)) fun a b => W.dataLt a b
def gtD : PyData → PyData → Option PyData := cmpD (fun i j => decide (j < i)) fun a b => W.dataLt b a
def leD : PyData → PyData → Option PyData := cmpD (fun i j => decide (i ≤ j)) fun a b => !W.dataLt b a
def geD : PyData → PyData → Option PyData := cmpD (fun i j => decide (j ≤ i)) fun a b => !W.dataLt a b
theorem ocmp {op : CmpOp} {p : Int → Int → Bool} {r : PyData → PyData → Bool} (hu : X.A.units + 64 < cLine)
    (hi : ∀ (i j : Int) (t u : Tok) (s : Shared) (Q : Value → Shared → Prop), Q (.bool (p i j)) s → wpAny (model X.prog X.w) X.A (compareOp op (.int i t) (.int j u)) Q X.xe s)
    (hd : ∀ (a b : PyData) (v u : Value) (s : Shared) (as bs : List Addr) (Q : Value → Shared → Prop), Reads s.heap v a as → Reads s.heap u b bs → W.alike a b = true → a ≠ .none → X.A.units + min a.depth b.depth < cLine → Q (.bool (r a b)) s → wpAny (model X.prog X.w) X.A (compareOp op v u) Q X.xe s) :
    OpR X (compareOp op) (r2 (cmpD p r)) := by
  intro pins s σ H x y v u Q I rx ry ⟨B, a, b, d, sb, wa, wb, e, q⟩
  have gen : (if W.alike a b = true ∧ cmpD.noneIs a = false ∧ min a.depth b.depth ≤ 60 then some (PyData.bool (r a b)) else none) = some d → wpAny (model X.prog X.w) X.A (compareOp op v u) (EP X pins σ Q) X.xe s := fun e => by
    by_cases hc : W.alike a b = true ∧ cmpD.noneIs a = false ∧ min a.depth b.depth ≤ 60
    · rw [if_pos hc] at e
      cases e
      obtain ⟨as, ra, _⟩ := wa.reads I sb rx
      obtain ⟨bs, rb, _⟩ := wb.reads I sb ry
      exact hd a b v u s as bs _ ra rb hc.1 (fun z => by rw [z] at hc; exact absurd hc.2.1 (by simp [cmpD.noneIs])) (by omega) ⟨.bl _, H, I, rfl, q _ H B (.refl sb) (.bl _)⟩
    · rw [if_neg hc] at e; cases e
  cases a with
  | int i =>
    cases b with
    | int j =>
      obtain rfl := wa.int
      obtain rfl := wb.int
      obtain ⟨t, rfl⟩ := rx
      obtain ⟨t', rfl⟩ := ry
      cases e
      exact hi i j t t' s _ ⟨.bl _, H, I, rfl, q _ H B (.refl sb) (.bl _)⟩
    | _ => exact gen e
  | _ => exact gen e
theorem olt (hu : X.A.units + 64 < cLine) : OpR X (compareOp .Lt) (r2 ltD) := ocmp hu (fun _ _ _ _ _ _ h => lt_int h) fun a b v u s as bs Q ra rb h hn hr hq => W.lt_data ra rb h hn hr hq
theorem ogt (hu : X.A.units + 64 < cLine) : OpR X (compareOp .Gt) (r2 gtD) := ocmp hu (fun _ _ _ _ _ _ h => gt_int h) fun a b v u s as bs Q ra rb h hn hr hq => W.gt_data ra rb h hn hr hq
theorem ole (hu : X.A.units + 64 < cLine) : OpR X (compareOp .LtE) (r2 leD) := ocmp hu (fun _ _ _ _ _ _ h => le_int h) fun a b v u s as bs Q ra rb h hn hr hq => W.le_data ra rb h hn hr hq
theorem oge (hu : X.A.units + 64 < cLine) : OpR X (compareOp .GtE) (r2 geD) := ocmp hu (fun _ _ _ _ _ _ h => ge_int h) fun a b v u s as bs Q ra rb h hn hr hq => W.ge_data ra rb h hn hr hq
end
end VL

/-! VL5: defs and their calls where no repr runs around; promises by data. -/
namespace VL
open PySem PySem.Spec PyProof.Rows L2

structure RoomG (k : Nat) (A : Around) : Prop where
  room : Room k A
  gd : A.guards = some []
theorem RoomG.mono {j k : Nat} {A : Around} (r : RoomG k A) (h : j ≤ k) : RoomG j A := ⟨r.room.mono h, r.gd⟩
theorem RoomG.deeper {k : Nat} {A : Around} (r : RoomG (k + 1) A) (env : Env) : RoomG k (A.deeper env) := ⟨r.room.deeper env, r.gd⟩
theorem RoomG.u64 {k : Nat} {A : Around} (r : RoomG k A) : A.units + 64 < cLine := r.room.units
theorem RoomG.u1 {k : Nat} {A : Around} (r : RoomG k A) : A.units + 1 < cLine := hu_of r.room

/-- a def's promise, kept wherever no repr runs around the call -/
structure FnG (P : Program) (w : World) (K : PySem.W.Frag) (mg : Str → Option Value) (base : Heap) (k : Nat) (f : Addr) (fd : FuncData) (ps : List Str) (sp : Sp) : Prop where
  len : ∀ vs H Q E, sp vs H Q E → vs.length = ps.length
  go : ∀ (A : Around) (outer : List Env) (s : Shared) (H : Hp) (args : Args) (us : List Value) (vs : List V) (Q : VK) (E : XK), RoomG k A → Env0 P w K mg base A outer s H → BindsTo s fd args (ps.zip us) → Vals vs us → sp vs H Q E →
    codeAny (model P w) A (.call (.ref f) args) (CR CX0 outer P w H s Q E) s
section
variable {P : Program} {w : World} {K : PySem.W.Frag} {mg : Str → Option Value} {base : Heap} {k : Nat} {f : Addr} {fd : FuncData} {ps : List Str} {sp : Sp}
theorem FnG.mono {j : Nat} (F : FnG P w K mg base j f fd ps sp) (h : j ≤ k) : FnG P w K mg base k f fd ps sp :=
  ⟨F.len, fun A outer s H args us vs Q E hr => F.go A outer s H args us vs Q E (hr.mono h)⟩
/-- a def of the text, by its body -/
theorem fnG_of {x qual : Str} {st : Stmt} {N : List Str} (F : Fun K x qual st f fd) (S : FnScope N ps (defScope st)) (len : ∀ vs H Q E, sp vs H Q E → vs.length = ps.length)
    (body : ∀ (cdv : Value) (A : Around) (outer : List Env) (s : Shared) (H : Hp) (vs : List V) (Q : VK) (E : XK), RoomG k (A.deeper (envOfC qual (defScope st) s.heap.objs.size f cdv)) → sp vs H Q E →
      ∃ t, PSs (cxOf CX0 P w K mg base N qual (defScope st) f cdv A outer s H E).nox (defBody st) t ∧ t { nx := fun _ H' => Q .non H', rt := Q } (L2.start N vs) H) : FnG P w K mg base (k + 1) f fd ps sp := by
  obtain ⟨oc, od, kV, doc, pm, an, cdv, ct, osl, rfl, lk, hcd⟩ := F.ex
  refine ⟨len, fun A outer s H args us vs Q E hr e0 hb r hsp => ?_⟩
  have kin : K.In s.heap := e0.mod.kin.keeps fun b o e => (e0.bs b o e).1
  have lim : s.heap.NoLimit := e0.mod.nolimit.keeps fun b o e => (e0.bs b o e).1
  refine codeAny_call_function hr.room.depth (kin _ _ lk) rfl S.co S.gen rfl (PySem.W.codeRec_of kin hcd) (hb _ _ _ _ ?_)
  refine wpAny_newFunctionEnv_cells S.kind (fun ⟨n, v⟩ hy => ?_) fun env he s1 x => ?_
  · exact (S.par n (List.of_mem_zip hy).1).elim .inl fun q => .inr ⟨q, PySem.W.cellsFrom_some _ _ _ (.inl q)⟩
  subst he
  refine ⟨lim.keeps x.toInCall.keep, codeAny_func ?_⟩
  obtain ⟨t, ht, hq⟩ := body cdv A outer s H vs Q E (hr.deeper _) hsp
  refine wpAny_mono (ht.nox.run [] s1 (L2.start N vs) H _ (inv_start S hr.room.hd e0 (len _ _ _ _ hsp) r x) hq) (fun fl s' hs => ?_) fun e s' hs => hs
  cases fl with
  | next =>
    obtain ⟨σ', H', J, q⟩ := hs
    exact ⟨V.non, H', J.os, J.bare, J.base, J.hok, rfl, q⟩
  | ret u =>
    obtain ⟨v, σ', H', J, rv, q⟩ := hs
    exact ⟨v, H', J.os, J.bare, J.base, J.hok, rv, q⟩
  | brk => exact hs.elim fun _ h => h.elim fun _ h => (show False from h.2).elim
  | cont => exact hs.elim fun _ h => h.elim fun _ h => (show False from h.2).elim
end
section
variable {X : Cx} {k : Nat} {f : Addr} {fd : FuncData} {ps : List Str} {sp : Sp} {x : Str} {p pos : Pos} {e : Expr} {es : List Expr} {t : TA}
theorem run_fnG {pins : List (Addr × Obj)} {σ : L2.St} {H : Hp} {s : Shared} {Q : VK} {us : List Value} {vs : List V} (F : FnG X.prog X.w X.K X.mg X.base k f fd ps sp) (hr : RoomG k X.A) (hb : Binds X.K fd ps [])
    (I : Inv X pins σ H s) (r : Vals vs us) (h : sp vs H Q fun _ _ _ => False) : wpAny (model X.prog X.w) X.A (call (.ref f) us) (EP X pins σ Q) X.xe s := by
  have hl : (us ++ []).length = ps.length := by rw [List.append_nil, ← r.length]; exact F.len _ _ _ _ h
  have bt := hb s us I.kIn hl
  rw [List.append_nil] at bt
  refine wpAny_call (codeAny_mono (F.go X.A X.stack s H ⟨us, []⟩ us vs Q _ hr I.env0 bt r h) fun r s' hq => ?_)
  cases r with
  | error e => exact hq.elim
  | ok fl =>
    cases fl with
    | ret u => exact I.after hq
    | _ => exact False.elim hq
theorem pe_callG (F : FnG X.prog X.w X.K X.mg X.base k f fd ps sp) (hr : RoomG k X.A) (hg : Gl X x) (hm : X.mg x = some (.ref f)) (hk : PySem.W.keepIn X.K (.ref f) = true) (hb : Binds X.K fd ps [])
    (ha : PA X (e :: es) t) (hdb : (x == ("__debug__" : Str)) = false := by decide) (he : starEach (e :: es) X.env = (false, eval e X.env) :: starEach es X.env := by rfl) (hpl : (backTo pos (starEach es X.env)).any (·.1) = false := by rfl) :
    PE X (.Call (.Name x p) (e :: es) [] pos) (fun σ H Q => t σ H fun vs H1 => sp vs H1 Q fun _ _ _ => False) := by
  refine ⟨fun pins s σ H Q I h => ?_⟩
  refine wpAny_Call_Name_kw (ld_glob I hg hm ?_ hdb)
  exact PySem.W.callWith_K (h₀ := X.base) I.ok.mod.kin hk (thn (ha.run pos pins s σ H _ I h) fun us s1 ⟨vs, H1, I1, r, q⟩ => ⟨I1.kIn, run_fnG F hr hb I1 r q⟩) he hpl

/-! ### promises by data -/
/-- a def that reads data and hands back data: foo says which; it changes nothing that stands -/
def spP (n : Nat) (foo : List D → Option D) : Sp := fun vs H Q _ => ∃ B ds d, Same B H ∧ RpA B vs ds ∧ ds.length = n ∧ foo ds = some d ∧ ∀ v H' B', Gr H B H' B' → Rp B' v d → Q v H'
theorem spP_len {n : Nat} {foo : List D → Option D} {vs : List V} {H : Hp} {Q : VK} {E : XK} (h : spP n foo vs H Q E) : vs.length = n := by
  obtain ⟨B, ds, d, _, r, hl, _⟩ := h
  rw [r.length, hl]
/-- a def that reads the source besides (its first parameter), and draws from it -/
def spS (n : Nat) (foo : List D → M D) : Sp := fun vs H Q _ => ∃ S L st B us ds d st', vs = .ref S :: us ∧ SrcAt H S L st ∧ B S = none ∧ B L = none ∧ Same B H ∧ RpA B us ds ∧ ds.length = n ∧ foo ds st = some (d, st') ∧
  ∀ v H' B', (∀ a o, a ≠ S → a ≠ L → H a = some o → H' a = some o) → SrcAt H' S L st' → Same B B' → Same B' H' → (∀ a o, B' a = some o → B a = some o ∨ H a = none ∨ TupO o) → Rp B' v d → Q v H'
theorem spS_len {n : Nat} {foo : List D → M D} {vs : List V} {H : Hp} {Q : VK} {E : XK} (h : spS n foo vs H Q E) : vs.length = n + 1 := by
  obtain ⟨S, L, st, B, us, ds, d, st', rfl, _, _, _, _, r, hl, _⟩ := h
  rw [List.length_cons, r.length, hl]
variable {os : Option (Addr × Addr)} {fr : Fx (List D)} {n : Nat}
/-- foo(..) -/
def fCall (n : Nat) (foo : List D → Option D) (fr : Fx (List D)) : Fx D := fun δ => mb (fr δ) fun ds => if ds.length = n then ml (foo ds) else m0
theorem ecall {foo : List D → Option D} (F : FnG X.prog X.w X.K X.mg X.base k f fd ps (spP n foo)) (hr : RoomG k X.A) (hg : Gl X x) (hm : X.mg x = some (.ref f)) (hk : PySem.W.keepIn X.K (.ref f) = true) (hb : Binds X.K fd ps [])
    (ha : PA X (e :: es) (tA os fr)) (hdb : (x == ("__debug__" : Str)) = false := by decide) (he : starEach (e :: es) X.env = (false, eval e X.env) :: starEach es X.env := by rfl) (hpl : (backTo pos (starEach es X.env)).any (·.1) = false := by rfl) :
    PE X (.Call (.Name x p) (e :: es) [] pos) (tS os (fCall n foo fr)) := (pe_callG F hr hg hm hk hb ha hdb he hpl).wk fun σ H Q ⟨δ, st, B, F, d, st', R, ea, q⟩ => by
  obtain ⟨ds, s1, e1, eb⟩ := mb_some ea
  by_cases hn : ds.length = n
  · rw [if_pos hn] at eb
    obtain ⟨e2, rfl⟩ := ml_some eb
    exact ⟨δ, st, B, F, ds, _, R, e1, fun vs H1 B1 l1 R1 r1 => ⟨B1, ds, d, R1.sub, r1, hn, e2, fun v H2 B2 g2 r2 => q v H2 B2 (l1.trans g2.leB) (R1.grow g2) r2⟩⟩
  · rw [if_neg hn] at eb
    cases eb
/-- foo(source, ..) -/
def fSrc (i : Nat) (n : Nat) (foo : List D → M D) (fr : Fx (List D)) : Fx D := fun δ => match δ[i]? with
  | some .src => mb (fr δ) fun ds => if ds.length = n then foo ds else m0
  | _ => m0
theorem Rel.swap {δ : List Slot} {st st' : Src} {σ : L2.St} {H B F H' B' : Hp} {S L : Addr} (R : Rel (some (S, L)) δ st σ H B F) (k : ∀ a o, a ≠ S → a ≠ L → H a = some o → H' a = some o) (sa : SrcAt H' S L st') (lB : Same B B') (sB : Same B' H') (nw : ∀ a o, B' a = some o → B a = some o ∨ H a = none ∨ TupO o) :
    Rel (some (S, L)) δ st' σ H' B' F := by
  obtain ⟨s0, b1, b2, f1, f2⟩ := R.sat S L rfl
  have nn : ∀ {a : Addr} {o : HO}, H a = some o → H' a = some o ∨ a = S ∨ a = L → B a = none → ¬ TupO o → B' a = none := fun {a o} h hk b nt => by
    cases q : B' a with
    | none => rfl
    | some z =>
      rcases nw a z q with e | e | e
      · rw [b] at e; cases e
      · rw [h] at e; cases e
      · have h1 := sB _ _ q
        obtain ⟨xs, rfl⟩ := e
        rcases hk with hk | rfl | rfl
        · rw [h1] at hk; cases hk; exact (nt ⟨xs, rfl⟩).elim
        · rw [sa.1] at h1; cases h1
        · rw [sa.2] at h1; cases h1
  refine ⟨sB, fun a o e => k a o (fun z => by rw [z, f1] at e; cases e) (fun z => by rw [z, f2] at e; cases e) (R.frm a o e), fun a o e => by
    rcases R.dsj a o e with q | q
    · by_cases t : TupO o
      · exact .inr t
      · exact .inl (nn (R.frm a o e) (.inl (k a o (fun z => by rw [z, f1] at e; cases e) (fun z => by rw [z, f2] at e; cases e) (R.frm a o e))) q t)
    · exact .inr q, fun i d e => let ⟨v, e1, r⟩ := R.val i d e; ⟨v, e1, r.mono lB⟩, fun i d e => ?_, R.dis, R.src, fun S' L' e => ?_, R.len⟩
  · obtain ⟨p, e1, o, b, f, n⟩ := R.own i d e
    obtain ⟨x, hx⟩ := o.there
    obtain ⟨n1, n2⟩ := n S L rfl
    exact ⟨p, e1, (o.mono lB (.refl _)).at fun z hz => k p z n1 n2 hz, nn hx (.inl (k p x n1 n2 hx)) b (o.nt hx), f, n⟩
  · cases e
    exact ⟨sa, nn s0.1 (.inr (.inl rfl)) b1 (by rintro ⟨_, z⟩; cases z), nn s0.2 (.inr (.inr rfl)) b2 (by rintro ⟨_, z⟩; cases z), f1, f2⟩
theorem esrc {foo : List D → M D} {i : Nat} {z : Str} {zp : Pos} (F : FnG X.prog X.w X.K X.mg X.base k f fd ps (spS n foo)) (hr : RoomG k X.A) (hg : Gl X x) (hm : X.mg x = some (.ref f)) (hk : PySem.W.keepIn X.K (.ref f) = true) (hb : Binds X.K fd ps [])
    (hz : PE X (.Name z zp) (tVar i)) (ha : PA X es (tA os fr)) (hs : starEach (.Name z zp :: es) X.env = (false, eval (.Name z zp) X.env) :: starEach es X.env := by rfl) (hdb : (x == ("__debug__" : Str)) = false := by decide) (hpl : (backTo pos (starEach es X.env)).any (·.1) = false := by rfl) :
    PE X (.Call (.Name x p) (.Name z zp :: es) [] pos) (tS os (fSrc i n foo fr)) := (pe_callG F hr hg hm hk hb (pa_cons hz ha hs) hdb hs hpl).wk fun σ H Q ⟨δ, st, B, F, d, st', R, ea, q⟩ => by
  have ea' : (match δ[i]? with
    | some .src => mb (fr δ) fun ds => if ds.length = n then foo ds else m0
    | _ => m0) st = some (d, st') := ea
  cases hsl : δ[i]? with
  | none => rw [hsl] at ea'; cases ea'
  | some sl =>
    cases sl with
    | src =>
      rw [hsl] at ea'
      obtain ⟨S, L, rfl, hS⟩ := R.src i hsl
      obtain ⟨ds, s1, e1, eb⟩ := mb_some ea'
      by_cases hn : ds.length = n
      · rw [if_pos hn] at eb
        refine ⟨_, hS, δ, st, B, F, ds, s1, R, e1, fun vs H1 B1 l1 R1 r1 => ?_⟩
        obtain ⟨sa, b1, b2, _⟩ := R1.sat S L rfl
        exact ⟨S, L, s1, B1, vs, ds, d, st', rfl, sa, b1, b2, R1.sub, r1, hn, eb, fun v H2 B2 k2 sa2 lB sB nw r2 => q v H2 B2 (l1.trans lB) (R1.swap k2 sa2 lB sB nw) r2⟩
      · rw [if_neg hn] at eb
        cases eb
    | _ => rw [hsl] at ea'; cases ea'

/-! ### a def's body, run -/
/-- no source: a state that nothing looks at -/
def src0 : Src := ⟨[], 0, 0, 0⟩
/-- what a def hands back: n parameters, so many names in all -/
def toRet : Option (Flow × Src) → Option D
  | some (.rt d, _) => some d
  | some (.nx _, _) => some .none
  | _ => none
def runP (names : Nat) (body : Fx Flow) (ds : List D) : Option D := toRet (body (ds.map Slot.val ++ List.replicate (names - ds.length) .nil) src0)
def toRetM : Option (Flow × Src) → Option (D × Src)
  | some (.rt d, s) => some (d, s)
  | some (.nx _, s) => some (.none, s)
  | _ => none
def runS (names : Nat) (body : Fx Flow) (ds : List D) : M D := fun s => toRetM (body (.src :: ds.map Slot.val ++ List.replicate (names - (ds.length + 1)) .nil) s)
/-- the frame at a def's entry: all that is tracked and no value of ours -/
def rest (H B : Hp) : Hp := fun a => match B a with
  | some _ => none
  | none => H a
theorem start_get {N : List Str} {us : List V} {i : Nat} {v : V} (h : us[i]? = some v) : (L2.start N us)[i]? = some (some v) := by
  unfold L2.start
  rw [List.getElem?_append_left (by rw [List.length_map]; exact lt_of_get h), List.getElem?_map, h]
  rfl
theorem rel_start {N : List Str} {us : List V} {ds : List D} {H B : Hp} (sb : Same B H) (r : RpA B us ds) (hn : ds.length ≤ N.length) (st : Src) : Rel none (ds.map Slot.val ++ List.replicate (N.length - ds.length) .nil) st (L2.start N us) H B (rest H B) := by
  have g : ∀ (i : Nat) (sl : Slot), (ds.map Slot.val ++ List.replicate (N.length - ds.length) Slot.nil)[i]? = some sl → sl = .nil ∨ ∃ d, sl = .val d ∧ ds[i]? = some d := fun i sl e => by
    by_cases hi : i < ds.length
    · rw [List.getElem?_append_left (by simpa using hi), List.getElem?_map, List.getElem?_eq_getElem hi] at e
      cases e
      exact .inr ⟨_, rfl, List.getElem?_eq_getElem hi⟩
    · rw [List.getElem?_append_right (by simpa using hi), List.getElem?_replicate] at e
      split at e
      · cases e; exact .inl rfl
      · cases e
  have rs : ∀ (a : Addr) (o : HO), rest H B a = some o → H a = some o ∧ B a = none := fun a o e => by
    unfold rest at e
    cases q : B a with
    | none => rw [q] at e; exact ⟨e, rfl⟩
    | some z => rw [q] at e; cases e
  refine ⟨sb, fun a o e => (rs a o e).1, fun a o e => .inl (rs a o e).2, fun i d e => ?_, fun i d e => ?_, fun i j d e p h => ?_, fun i e => ?_, fun S L e => (nomatch e), ?_⟩
  · rcases g i _ e with h | ⟨d', h, e'⟩
    · cases h
    · cases h
      obtain ⟨v, h1, h2⟩ := r.get e'
      exact ⟨v, start_get h1, h2⟩
  · rcases g i _ e with h | ⟨d', h, e'⟩ <;> cases h
  · rcases g i _ h with h | ⟨d', h, e'⟩ <;> cases h
  · rcases g i _ e with h | ⟨d', h, e'⟩ <;> cases h
  · unfold L2.start
    simp only [List.length_append, List.length_map, List.length_replicate, r.length]
/-- what a body without a source comes to -/
theorem end_P {N : List Str} {us : List V} {ds : List D} {d : D} {H B : Hp} {body : Fx Flow} {Q : VK} (sb : Same B H) (r : RpA B us ds) (hn : ds.length ≤ N.length) (e : runP N.length body ds = some d) (q : ∀ v H' B', Gr H B H' B' → Rp B' v d → Q v H') :
    tB none body { nx := fun _ H' => Q .non H', rt := Q } (L2.start N us) H := by
  have R := rel_start (N := N) sb r hn src0
  unfold runP at e
  have fin : ∀ {st' : Src} {H' B' : Hp}, Same B B' → Rel none [] st' [] H' B' (rest H B) → Gr H B H' B' := fun {st' H' B'} l R' => by
    refine ⟨fun a o h => ?_, l, R'.sub, fun a o h => ?_⟩
    · cases hb : B a with
      | some z =>
        have := sb a z hb
        rw [h] at this
        cases this
        exact R'.sub a o (l a o hb)
      | none =>
        refine R'.frm a o ?_
        unfold rest
        rw [hb]
        exact h
    · cases hb : B a with
      | some z => exact .inl (by rw [l a z hb] at h; exact h)
      | none =>
        refine .inr ?_
        cases hh : H a with
        | none => exact .inl rfl
        | some z =>
          have hr : rest H B a = some z := by unfold rest; rw [hb]; exact hh
          rcases R'.dsj a z hr with q1 | q1
          · rw [q1] at h
            cases h
          · have e1 := R'.sub a o h
            rw [R'.frm a z hr] at e1
            cases e1
            exact .inr q1
  cases hb : body (ds.map Slot.val ++ List.replicate (N.length - ds.length) .nil) src0 with
  | none => rw [hb] at e; cases e
  | some p =>
    obtain ⟨fl, st'⟩ := p
    rw [hb] at e
    refine ⟨_, src0, B, rest H B, fl, st', R, hb, ?_⟩
    cases fl with
    | rt d' =>
      cases e
      exact fun v H' B' l R' r' => q v H' B' (fin l R') r'
    | nx δ' =>
      cases e
      exact fun σ' H' B' l R' => q .non H' B' (fin l R'.bare) .non
    | bk δ' => cases e
    | ct δ' => cases e
/-- .. with one -/
theorem end_S {N : List Str} {us : List V} {ds : List D} {d : D} {st st' : Src} {S L : Addr} {H B : Hp} {body : Fx Flow} {Q : VK} (sb : Same B H) (sa : SrcAt H S L st) (b1 : B S = none) (b2 : B L = none) (r : RpA B us ds) (hn : ds.length + 1 ≤ N.length) (e : runS N.length body ds st = some (d, st'))
    (q : ∀ v H' B', (∀ a o, a ≠ S → a ≠ L → H a = some o → H' a = some o) → SrcAt H' S L st' → Same B B' → Same B' H' → (∀ a o, B' a = some o → B a = some o ∨ H a = none ∨ TupO o) → Rp B' v d → Q v H') :
    tB (some (S, L)) body { nx := fun _ H' => Q .non H', rt := Q } (L2.start N (.ref S :: us)) H := by
  let Fr : Hp := fun a => if a = S ∨ a = L then none else rest H B a
  have rs : ∀ (a : Addr) (o : HO), Fr a = some o → H a = some o ∧ B a = none ∧ a ≠ S ∧ a ≠ L := fun a o e => by
    have e' : (if a = S ∨ a = L then none else rest H B a) = some o := e
    by_cases h : a = S ∨ a = L
    · rw [if_pos h] at e'; cases e'
    · rw [if_neg h] at e'
      unfold rest at e'
      cases q : B a with
      | none => rw [q] at e'; exact ⟨e', rfl, fun z => h (.inl z), fun z => h (.inr z)⟩
      | some z => rw [q] at e'; cases e'
  have g : ∀ (i : Nat) (sl : Slot), (Slot.src :: ds.map Slot.val ++ List.replicate (N.length - (ds.length + 1)) Slot.nil)[i]? = some sl → (i = 0 ∧ sl = .src) ∨ sl = .nil ∨ ∃ d, sl = .val d ∧ (V.ref S :: us)[i]? = us[i - 1]? ∧ ds[i - 1]? = some d := fun i sl e => by
    cases i with
    | zero => cases e; exact .inl ⟨rfl, rfl⟩
    | succ i =>
      right
      rw [List.cons_append, List.getElem?_cons_succ] at e
      by_cases hi : i < ds.length
      · rw [List.getElem?_append_left (by simpa using hi), List.getElem?_map, List.getElem?_eq_getElem hi] at e
        cases e
        exact .inr ⟨_, rfl, rfl, List.getElem?_eq_getElem hi⟩
      · rw [List.getElem?_append_right (by simpa using hi), List.getElem?_replicate] at e
        split at e
        · cases e; exact .inl rfl
        · cases e
  have R : Rel (some (S, L)) (Slot.src :: ds.map Slot.val ++ List.replicate (N.length - (ds.length + 1)) Slot.nil) st (L2.start N (.ref S :: us)) H B Fr := by
    refine ⟨sb, fun a o e => (rs a o e).1, fun a o e => .inl (rs a o e).2.1, fun i d e => ?_, fun i d e => ?_, fun i j d e p h => ?_, fun i e => ?_, fun S' L' e => ?_, ?_⟩
    · rcases g i _ e with ⟨_, h⟩ | h | ⟨d', h, e1, e2⟩
      · cases h
      · cases h
      · cases h
        obtain ⟨v, h1, h2⟩ := r.get e2
        exact ⟨v, start_get (e1.trans h1), h2⟩
    · rcases g i _ e with ⟨_, h⟩ | h | ⟨d', h, e1, e2⟩ <;> cases h
    · rcases g i _ h with ⟨_, h⟩ | h | ⟨d', h, e1, e2⟩ <;> cases h
    · rcases g i _ e with ⟨rfl, _⟩ | h | ⟨d', h, e1, e2⟩
      · exact ⟨S, L, rfl, start_get rfl⟩
      · cases h
      · cases h
    · cases e
      exact ⟨sa, b1, b2, if_pos (.inl rfl), if_pos (.inr rfl)⟩
    · unfold L2.start
      simp only [List.length_append, List.length_map, List.length_replicate, List.length_cons, r.length]
  have fin : ∀ {st2 : Src} {H' B' : Hp}, Same B B' → Rel (some (S, L)) [] st2 [] H' B' Fr → (∀ a o, a ≠ S → a ≠ L → H a = some o → H' a = some o) ∧ SrcAt H' S L st2 ∧ Same B' H' ∧ (∀ a o, B' a = some o → B a = some o ∨ H a = none ∨ TupO o) := fun {st2 H' B'} l R' => by
    refine ⟨fun a o n1 n2 h => ?_, (R'.sat S L rfl).1, R'.sub, fun a o h => ?_⟩
    · cases hb : B a with
      | some z =>
        have := sb a z hb
        rw [h] at this
        cases this
        exact R'.sub a o (l a o hb)
      | none =>
        refine R'.frm a o ?_
        show (if a = S ∨ a = L then none else rest H B a) = some o
        rw [if_neg (fun z => z.elim n1 n2)]
        unfold rest
        rw [hb]
        exact h
    · cases hb : B a with
      | some z => exact .inl (by rw [l a z hb] at h; exact h)
      | none =>
        refine .inr ?_
        cases hh : H a with
        | none => exact .inl rfl
        | some z =>
          by_cases hS : a = S ∨ a = L
          · obtain ⟨_, c1, c2, _⟩ := R'.sat S L rfl
            rcases hS with e | e
            · rw [e, c1] at h; cases h
            · rw [e, c2] at h; cases h
          · have hr : Fr a = some z := by
              show (if a = S ∨ a = L then none else rest H B a) = some z
              rw [if_neg hS]
              unfold rest
              rw [hb]
              exact hh
            rcases R'.dsj a z hr with q1 | q1
            · rw [q1] at h
              cases h
            · have e1 := R'.sub a o h
              rw [R'.frm a z hr] at e1
              cases e1
              exact .inr q1
  unfold runS at e
  cases hb : body (.src :: ds.map Slot.val ++ List.replicate (N.length - (ds.length + 1)) .nil) st with
  | none => rw [hb] at e; cases e
  | some p =>
    obtain ⟨fl, st2⟩ := p
    rw [hb] at e
    refine ⟨_, st, B, Fr, fl, st2, R, hb, ?_⟩
    cases fl with
    | rt d' =>
      cases e
      exact fun v H' B' l R' r' => let ⟨a1, a2, a3, a4⟩ := fin l R'; q v H' B' a1 a2 l a3 a4 r'
    | nx δ' =>
      cases e
      exact fun σ' H' B' l R' => let ⟨a1, a2, a3, a4⟩ := fin l R'.bare; q .non H' B' a1 a2 l a3 a4 .non
    | bk δ' => cases e
    | ct δ' => cases e
end
end VL

/-! VL6: what for and comprehensions walk: lists, tuples, ranges, enumerate. -/
namespace VL
open PySem PySem.Spec PyProof.Rows L2

section
variable {prog : Program} {w : World} {A : Around} {E : Value → Shared → Prop} {s : Shared}
set_option maxHeartbeats 1000000 in
theorem meets_enum_one {v : Value} {o : Obj} {H : Heap → Prop} (B : Begins v o H) :
    Meets (Builtin.«enumerate.__new__» ⟨[.type "enumerate", v], []⟩) (fun _ R s => H s.heap ∧
      R (.ok (.ret (.ref (s.heap.push o).objs.size))) { s with heap := (s.heap.push o).push { cls := .type "enumerate", data := .fields #[.none, .bool false, .ref s.heap.objs.size, rawInt 0, .none, .none] } }) :=
  .of_wp fun prog w A R s h => by
    obtain ⟨hp, g, d, tk, os⟩ := s; obtain ⟨h1, h⟩ := h
    have hsub := sub_enumerate
    have q1 : ∀ {A' : Around} {E : Value → Shared → Prop} {Q : Value → Shared → Prop}, Q (.ref hp.objs.size) ⟨hp.push o, g, d, tk, os⟩ → wpAny (model prog w) A' (pyIter v) Q E ⟨hp, g, d, tk, os⟩ :=
      fun q => B.iter prog w _ _ ⟨hp, g, d, tk, os⟩ _ h1 q
    wp_walk using q1
    refine wpAny_stack_any fun st => wpAny_pure ?_
    split
    · rename_i c _ _ _ _ _
      cases (c == Value.type "enumerate")
      · wp_walk using q1
        exact ⟨_, rfl, h⟩
      · wp_walk using q1
        exact ⟨_, rfl, h⟩
    · wp_walk using q1
      exact ⟨_, rfl, h⟩
theorem enum_one {v : Value} {o : Obj} {H : Heap → Prop} {Q : Value → Shared → Prop} (B : Begins v o H) (h1 : H s.heap)
    (h : ∀ h', IsEnum h' (s.heap.objs.size + 1) s.heap.objs.size 0 .none → h'.get? s.heap.objs.size = some o →
      (∀ b o, s.heap.get? b = some o → h'.get? b = some o) → Q (.ref (s.heap.objs.size + 1)) { s with heap := h' }) :
    wpAny (model prog w) A (call (.type "enumerate") [v]) Q E s := by
  refine callType_new F.called_enumerate (by decide) (F.typeCall_enumerate_1 _) (F.newCall_enumerate_1 _) (fun obj => F.args_object_init_2 obj _) F.entry_enumerate_new
    (meets_enum_one B) ⟨h1, ?_⟩
  have hz : (s.heap.push o).objs.size = s.heap.objs.size + 1 := Heap.size_push ..
  show _ ∧ _
  rw [hz]
  have he : IsEnum ((s.heap.push o).push { cls := .type "enumerate", data := .fields #[.none, .bool false, .ref s.heap.objs.size, rawInt 0, .none, .none] }) (s.heap.objs.size + 1) s.heap.objs.size 0 .none := by
    have := Heap.get?_push_size (s.heap.push o) (o := { cls := .type "enumerate", data := .fields #[.none, .bool false, .ref s.heap.objs.size, rawInt 0, .none, .none] }) rfl
    rw [hz] at this; exact this
  exact ⟨⟨_, he, rfl⟩, h _ he (Heap.get?_push_of_some _ (Heap.get?_push_size _ B.free)) fun b o x => Heap.get?_push_of_some _ (Heap.get?_push_of_some _ x)⟩
end

/-- the tuple at a, each item in a new pair -/
def IteT (K : PySem.W.Frag) (a : Addr) : It :=
  ⟨fun i H => ∃ (xs : List V) (x : V), SqT K H a xs ∧ xs[i]? = some x, fun i H v H' => ∃ (T : Addr) (o : Obj) (x : V), v = .ref T ∧ H T = none ∧ o.dict = none ∧ H' = upd H T (.tup [.int (i : Nat), x]) ∧ ∀ xs, SqT K H a xs → xs[i]? = some x, fun i H => ∃ xs : List V, SqT K H a xs ∧ xs.length ≤ i⟩
theorem turn_enumT {P : Program} {w : World} {K : PySem.W.Frag} {elts : List Expr} {kk : Nat} {tpos : Pos} (a e it : Addr) :
    Turn P w K (.Tuple elts kk tpos) (IteT K a) [e, it] e (fun i h => (∃ old, IsEnum h e it ((i : Nat) : Int) old) ∧ h.IsTupleIter it a i ∧ e ≠ it) where
  mem := by simp
  obj := fun i h st b hb => by
    obtain ⟨⟨old, he⟩, ⟨o, ho, hc, hd⟩, _⟩ := st
    have e' : b = e ∨ b = it := by simpa using hb
    rcases e' with z | z
    · rw [z]; exact ⟨_, he, fun v q => nomatch q⟩
    · rw [z]; exact ⟨o, ho, fun v q => by rw [hd] at q; cases q⟩
  keep := fun i h h' st k => let ⟨⟨old, he⟩, hi, hne⟩ := st; ⟨⟨old, k e (by simp) _ he⟩, hi.at fun o q => k it (by simp) o q, hne⟩
  item := by
    intro X hP hw hK hc i pins s σ H E I hf st hg
    subst hP hw hK
    obtain ⟨⟨old, he⟩, hit, hne⟩ := st
    obtain ⟨xs, x, hq, hx⟩ := hg
    obtain ⟨its, rv, p, hz⟩ := I.tuple hq
    obtain ⟨u, hu, ru⟩ := rv.get hx
    have hel : e < s.heap.objs.size := Heap.lt_size he
    have hil : it < s.heap.objs.size := by obtain ⟨_, q, _⟩ := hit; exact Heap.lt_size q
    have hT0 : s.heap.IsTuple a its.toArray := p
    obtain ⟨ot, t1, t2, _⟩ := id hT0
    have hai : a ≠ it := fun z => by
      obtain ⟨o, q, c, _⟩ := hit
      rw [← z, t1] at q
      obtain rfl := Option.some.inj q
      exact absurd (t2.symm.trans c) (by decide)
    have hea : e ≠ a := fun z => by
      have he' : s.heap.get? e = some _ := he
      rw [z, t1] at he'
      obtain rfl := Option.some.inj he'
      exact absurd (show Value.type "enumerate" = Value.type "tuple" from t2) (by decide)
    have D := Draws.tuple (prog := X.prog) (w := X.w) (A := X.A.in1) (I.ok.hd hc) it a hai its.toArray
    have hi : i < its.toArray.size := by
      have := (List.getElem?_eq_some_iff.mp hu).1
      simpa using this
    refine wpAny_pyNext_enum_itemD D he ⟨hit, hT0⟩ hi hne (by simp [hne, hea]) fun v h' tk hP ho hst hT hsz hk => ?_
    have ev : v = u := by
      have q : its.toArray[i]? = some v := hP
      rw [List.getElem?_toArray, hu] at q
      exact (Option.some.inj q).symm
    subst ev
    refine ⟨_, rfl, wpAny_letOwnedTupleGo_enum (s := { s with heap := h', toks := tk + 1 }) ho fun h'' he' sb => ?_⟩
    have hT2 : h''.get? s.heap.objs.size = some { cls := .type "tuple", data := .seq #[.int i tk, v] } := (sb.2 _ (Nat.ne_of_gt hel)).trans hT
    let o : Obj := { cls := .type "tuple", data := .seq #[.int i tk, v] }
    have new : ObjOk X.prog X.w (upd H s.heap.objs.size (.tup [.int (i : Nat), x])) h'' s.heap.objs.size (.tup [.int (i : Nat), x]) :=
      ⟨by show 2 ≤ sizeLine; decide, [.int i tk, v], .cons ⟨_, rfl⟩ (.cons ru .nil), ⟨_, hT2, rfl, _, rfl⟩⟩
    have I1 : Inv X pins σ (upd H s.heap.objs.size (.tup [.int (i : Nat), x])) { s with heap := h'', toks := tk + 1 } :=
      I.turnedNew (ch := [e, it]) (fun b ob hb q => (sb.2 b (fun z => hb (by simp [z]))).trans (hk b ob (fun z => hb (by simp [z])) (fun z => hb (by simp [z])) q)) hf (Nat.le_refl _) new
    refine ⟨.ref s.heap.objs.size, _, I1, rfl, ⟨_, o, x, rfl, I.hok.fresh (Nat.le_refl _), rfl, rfl, fun ys hy => by rw [I.tuple_inj hy hq]; exact hx⟩, ⟨⟨v, ?_⟩, hst.1.at fun o q => (sb.2 it (Ne.symm hne)).trans q, hne⟩, fun b hb => ?_⟩
    · have e1 : ((i + 1 : Nat) : Int) = (i : Int) + 1 := by omega
      rw [e1]; exact he'
    · have hb' : b < s.heap.objs.size := by
        have e' : b = e ∨ b = it := by simpa using hb
        rcases e' with z | z
        · rw [z]; exact hel
        · rw [z]; exact hil
      rw [upd_ne (Nat.ne_of_lt hb')]
      exact (hf b hb).1
  done := by
    intro X hP hw hK hc i pins s σ H E I hf st hg
    subst hP hw hK
    obtain ⟨⟨old, he⟩, hit, hne⟩ := st
    obtain ⟨xs, hq, hx⟩ := hg
    obtain ⟨its, rv, p, hz⟩ := I.tuple hq
    obtain ⟨f0, f1, f2, f3, f4, f5⟩ := hf it (by simp)
    have hl := rv.length
    have hT0 : s.heap.IsTuple a its.toArray := p
    have hT : s.TypeIs (.ref e) "enumerate" := ⟨_, he, rfl⟩
    unfold pyNext
    refine wpAny_bind (wpAny_attempt (wpAny_callSpecial?_slot (name := Str.ofString "__next__") hT F.slot_enumerate_next
      (wpAny_call_entry F.slot_enumerate_next hT F.entry_enumerate_next ?_ (F.args_enumerate_next_1 _))))
    show wpAny _ _ (field (.ref e) 2 >>= _) _ _ _
    refine wpAny_bind (wpAny_field he rfl (x := .ref it) rfl ?_)
    refine wpAny_bind (wpAny_nextOf_tuple_end (I.ok.hd hc) hit hT0 (by simp; omega) fun h' x he' hx' => ?_)
    obtain ⟨o, ho, hc'⟩ := hx'
    refine wpAny_bind (wpAny_isInstance (T := "StopIteration") (b := true) ⟨o, ho, hc'⟩ isSubtype_stop ?_)
    exact wpAny_pure ⟨rfl, I.turned (t' := s.toks) (fun b o hb e => he' b o hb e) f0 f1 f3 f4 f5⟩
  self := fun A i s Q E st h => let ⟨⟨_, he⟩, _⟩ := st; wpAny_pyIter_enum he h
def iEnumT (K : PySem.W.Frag) (ta : TA) : TI := fun σ H R => ta σ H fun vs H1 => ∃ a xs, vs = [.ref a] ∧ SqT K H1 a xs ∧ R (IteT K a) H1
theorem pi_enumT {X : Cx} {e : Expr} {ta : TA} {p pos tpos : Pos} {elts : List Expr} {kk : Nat} (hg : Gl X "enumerate") (hm : X.mg "enumerate" = none) (ha : PA X [e] ta) (hs : starEach [e] X.env = [(false, eval e X.env)] := by rfl) :
    PI X (.Tuple elts kk tpos) (.Call (.Name "enumerate" p) [e] [] pos) (iEnumT X.K ta) := by
  refine ⟨fun pins s σ H R I h => ?_⟩
  refine Call_ (ld_blt I hg hm boot_enumerate (PyProof.Rows.callWith_type1 (thn (ha.run pos pins s σ H _ I h) fun us s1 ⟨vs, H1, I1, r1, q1⟩ => ?_) hs rfl))
  obtain ⟨a, xs, ex, hq, q⟩ := q1
  subst ex
  cases r1 with
  | cons r rr =>
    cases rr
    cases r
    obtain ⟨its, rv, p', hz⟩ := I1.tuple hq
    refine enum_one (PySem.begins_tuple a its.toArray) p' fun h' he hit hk => wpAny_pyIter_enum he ?_
    have I2 : Inv X pins σ H1 { s1 with heap := h' } := I1.kept (t' := s1.toks) hk
    refine ⟨s1.heap.objs.size + 1, [s1.heap.objs.size + 1, s1.heap.objs.size], _, _, H1, rfl, I2, turn_enumT a (s1.heap.objs.size + 1) s1.heap.objs.size, ⟨⟨.none, he⟩, ⟨_, hit, rfl, rfl⟩, Nat.succ_ne_self _⟩, fun b hb => ?_, q⟩
    have e' : b = s1.heap.objs.size + 1 ∨ b = s1.heap.objs.size := by simpa using hb
    have hle : s1.heap.objs.size ≤ b := by
      rcases e' with z | z
      · rw [z]; exact Nat.le_add_right _ _
      · rw [z]; exact Nat.le_refl _
    exact I1.fpOk hle (I1.hok.fresh hle)

/-- the list at a, each item in a new pair -/
def IteL (K : PySem.W.Frag) (a : Addr) : It :=
  ⟨fun i H => ∃ (xs : List V) (x : V), SqL K H a xs ∧ xs[i]? = some x, fun i H v H' => ∃ (T : Addr) (o : Obj) (x : V), v = .ref T ∧ H T = none ∧ o.dict = none ∧ H' = upd H T (.tup [.int (i : Nat), x]) ∧ ∀ xs, SqL K H a xs → xs[i]? = some x, fun i H => ∃ xs : List V, SqL K H a xs ∧ xs.length ≤ i⟩
theorem turn_enumL {P : Program} {w : World} {K : PySem.W.Frag} {elts : List Expr} {kk : Nat} {tpos : Pos} (a e it : Addr) :
    Turn P w K (.Tuple elts kk tpos) (IteL K a) [e, it] e (fun i h => (∃ old, IsEnum h e it ((i : Nat) : Int) old) ∧ h.IsListIter it a i ∧ e ≠ it) where
  mem := by simp
  obj := fun i h st b hb => by
    obtain ⟨⟨old, he⟩, ⟨o, ho, hc, hd⟩, _⟩ := st
    have e' : b = e ∨ b = it := by simpa using hb
    rcases e' with z | z
    · rw [z]; exact ⟨_, he, fun v q => nomatch q⟩
    · rw [z]; exact ⟨o, ho, fun v q => by rw [hd] at q; cases q⟩
  keep := fun i h h' st k => let ⟨⟨old, he⟩, hi, hne⟩ := st; ⟨⟨old, k e (by simp) _ he⟩, hi.at fun o q => k it (by simp) o q, hne⟩
  item := by
    intro X hP hw hK hc i pins s σ H E I hf st hg
    subst hP hw hK
    obtain ⟨⟨old, he⟩, hit, hne⟩ := st
    obtain ⟨xs, x, hq, hx⟩ := hg
    obtain ⟨its, rv, p, hz⟩ := I.list hq
    obtain ⟨u, hu, ru⟩ := rv.get hx
    have hel : e < s.heap.objs.size := Heap.lt_size he
    have hil : it < s.heap.objs.size := by obtain ⟨_, q, _⟩ := hit; exact Heap.lt_size q
    have hT0 : s.heap.IsList a its.toArray := p.isList
    obtain ⟨ot, t1, t2, _⟩ := id hT0
    have hai : a ≠ it := fun z => by
      obtain ⟨o, q, c, _⟩ := hit
      rw [← z, t1] at q
      obtain rfl := Option.some.inj q
      exact absurd (t2.symm.trans c) (by decide)
    have hea : e ≠ a := fun z => by
      have he' : s.heap.get? e = some _ := he
      rw [z, t1] at he'
      obtain rfl := Option.some.inj he'
      exact absurd (show Value.type "enumerate" = Value.type "list" from t2) (by decide)
    have D := Draws.list (prog := X.prog) (w := X.w) (A := X.A.in1) (I.ok.hd hc) it a hai its.toArray
    have hi : i < its.toArray.size := by
      have := (List.getElem?_eq_some_iff.mp hu).1
      simpa using this
    refine wpAny_pyNext_enum_itemD D he ⟨hit, hT0⟩ hi hne (by simp [hne, hea]) fun v h' tk hP ho hst hT hsz hk => ?_
    have ev : v = u := by
      have q : its.toArray[i]? = some v := hP
      rw [List.getElem?_toArray, hu] at q
      exact (Option.some.inj q).symm
    subst ev
    refine ⟨_, rfl, wpAny_letOwnedTupleGo_enum (s := { s with heap := h', toks := tk + 1 }) ho fun h'' he' sb => ?_⟩
    have hT2 : h''.get? s.heap.objs.size = some { cls := .type "tuple", data := .seq #[.int i tk, v] } := (sb.2 _ (Nat.ne_of_gt hel)).trans hT
    let o : Obj := { cls := .type "tuple", data := .seq #[.int i tk, v] }
    have new : ObjOk X.prog X.w (upd H s.heap.objs.size (.tup [.int (i : Nat), x])) h'' s.heap.objs.size (.tup [.int (i : Nat), x]) :=
      ⟨by show 2 ≤ sizeLine; decide, [.int i tk, v], .cons ⟨_, rfl⟩ (.cons ru .nil), ⟨_, hT2, rfl, _, rfl⟩⟩
    have I1 : Inv X pins σ (upd H s.heap.objs.size (.tup [.int (i : Nat), x])) { s with heap := h'', toks := tk + 1 } :=
      I.turnedNew (ch := [e, it]) (fun b ob hb q => (sb.2 b (fun z => hb (by simp [z]))).trans (hk b ob (fun z => hb (by simp [z])) (fun z => hb (by simp [z])) q)) hf (Nat.le_refl _) new
    refine ⟨.ref s.heap.objs.size, _, I1, rfl, ⟨_, o, x, rfl, I.hok.fresh (Nat.le_refl _), rfl, rfl, fun ys hy => by rw [I.list_inj hy hq]; exact hx⟩, ⟨⟨v, ?_⟩, hst.1.at fun o q => (sb.2 it (Ne.symm hne)).trans q, hne⟩, fun b hb => ?_⟩
    · have e1 : ((i + 1 : Nat) : Int) = (i : Int) + 1 := by omega
      rw [e1]; exact he'
    · have hb' : b < s.heap.objs.size := by
        have e' : b = e ∨ b = it := by simpa using hb
        rcases e' with z | z
        · rw [z]; exact hel
        · rw [z]; exact hil
      rw [upd_ne (Nat.ne_of_lt hb')]
      exact (hf b hb).1
  done := by
    intro X hP hw hK hc i pins s σ H E I hf st hg
    subst hP hw hK
    obtain ⟨⟨old, he⟩, hit, hne⟩ := st
    obtain ⟨xs, hq, hx⟩ := hg
    obtain ⟨its, rv, p, hz⟩ := I.list hq
    obtain ⟨f0, f1, f2, f3, f4, f5⟩ := hf it (by simp)
    have hl := rv.length
    have hT0 : s.heap.IsList a its.toArray := p.isList
    have hT : s.TypeIs (.ref e) "enumerate" := ⟨_, he, rfl⟩
    unfold pyNext
    refine wpAny_bind (wpAny_attempt (wpAny_callSpecial?_slot (name := Str.ofString "__next__") hT F.slot_enumerate_next
      (wpAny_call_entry F.slot_enumerate_next hT F.entry_enumerate_next ?_ (F.args_enumerate_next_1 _))))
    show wpAny _ _ (field (.ref e) 2 >>= _) _ _ _
    refine wpAny_bind (wpAny_field he rfl (x := .ref it) rfl ?_)
    refine wpAny_bind (wpAny_nextOf_list_end (I.ok.hd hc) hit hT0 (by simp; omega) fun h' x he' hx' => ?_)
    obtain ⟨o, ho, hc'⟩ := hx'
    refine wpAny_bind (wpAny_isInstance (T := "StopIteration") (b := true) ⟨o, ho, hc'⟩ isSubtype_stop ?_)
    exact wpAny_pure ⟨rfl, I.turned (t' := s.toks) (fun b o hb e => he' b o hb e) f0 f1 f3 f4 f5⟩
  self := fun A i s Q E st h => let ⟨⟨_, he⟩, _⟩ := st; wpAny_pyIter_enum he h
def iEnumL (K : PySem.W.Frag) (ta : TA) : TI := fun σ H R => ta σ H fun vs H1 => ∃ a xs, vs = [.ref a] ∧ SqL K H1 a xs ∧ R (IteL K a) H1
theorem pi_enumL {X : Cx} {e : Expr} {ta : TA} {p pos tpos : Pos} {elts : List Expr} {kk : Nat} (hg : Gl X "enumerate") (hm : X.mg "enumerate" = none) (ha : PA X [e] ta) (hs : starEach [e] X.env = [(false, eval e X.env)] := by rfl) :
    PI X (.Tuple elts kk tpos) (.Call (.Name "enumerate" p) [e] [] pos) (iEnumL X.K ta) := by
  refine ⟨fun pins s σ H R I h => ?_⟩
  refine Call_ (ld_blt I hg hm boot_enumerate (PyProof.Rows.callWith_type1 (thn (ha.run pos pins s σ H _ I h) fun us s1 ⟨vs, H1, I1, r1, q1⟩ => ?_) hs rfl))
  obtain ⟨a, xs, ex, hq, q⟩ := q1
  subst ex
  cases r1 with
  | cons r rr =>
    cases rr
    cases r
    obtain ⟨its, rv, p', hz⟩ := I1.list hq
    refine enum_one (PySem.begins_list a its.toArray) p'.isList fun h' he hit hk => wpAny_pyIter_enum he ?_
    have I2 : Inv X pins σ H1 { s1 with heap := h' } := I1.kept (t' := s1.toks) hk
    refine ⟨s1.heap.objs.size + 1, [s1.heap.objs.size + 1, s1.heap.objs.size], _, _, H1, rfl, I2, turn_enumL a (s1.heap.objs.size + 1) s1.heap.objs.size, ⟨⟨.none, he⟩, ⟨_, hit, rfl, rfl⟩, Nat.succ_ne_self _⟩, fun b hb => ?_, q⟩
    have e' : b = s1.heap.objs.size + 1 ∨ b = s1.heap.objs.size := by simpa using hb
    have hle : s1.heap.objs.size ≤ b := by
      rcases e' with z | z
      · rw [z]; exact Nat.le_add_right _ _
      · rw [z]; exact Nat.le_refl _
    exact I1.fpOk hle (I1.hok.fresh hle)

/-! ### by data -/
theorem go_sq {K : PySem.W.Frag} {B H : Hp} {a : Addr} {xs : List V} {i : Nat} {ds : List D} (e : H a = some (.lst xs)) (r : RpA B xs ds) (hi : i < ds.length) : ∃ (ys : List V) (x : V), SqL K H a ys ∧ ys[i]? = some x :=
  ⟨xs, xs[i]'(by rw [r.length]; exact hi), .of e, List.getElem?_eq_getElem _⟩
theorem it_lst {K : PySem.W.Frag} {B : Hp} {a : Addr} {xs : List V} {ds : List D} (e : B a = some (.lst xs)) (r : RpA B xs ds) (hs : ds.length ≤ sizeLine) : ItD (Itl K a) ds B where
  go := fun i H sb hi => ⟨xs, xs[i]'(by rw [r.length]; exact hi), .of (sb _ _ e), List.getElem?_eq_getElem _⟩
  stop := fun i H sb hi => ⟨xs, .of (sb _ _ e), by rw [r.length]; exact hi⟩
  yld := fun i H B' x H' s1 s2 hi ⟨eh, hx⟩ => by
    subst eh
    obtain ⟨v, h1, h2⟩ := r.get (List.getElem?_eq_getElem hi)
    have h3 := hx xs (.of (s2 _ _ (s1 _ _ e)))
    rw [h1] at h3
    cases h3
    exact ⟨_, B', List.getElem?_eq_getElem hi, .refl s2, h2.mono s1⟩
  small := hs
theorem it_tup {K : PySem.W.Frag} {B : Hp} {a : Addr} {xs : List V} {ds : List D} (e : Tp B a xs) (r : RpA B xs ds) (hs : ds.length ≤ sizeLine) : ItD (Itt K a) ds B where
  go := fun i H sb hi => ⟨xs, xs[i]'(by rw [r.length]; exact hi), (e.mono sb).sq, List.getElem?_eq_getElem _⟩
  stop := fun i H sb hi => ⟨xs, (e.mono sb).sq, by rw [r.length]; exact hi⟩
  yld := fun i H B' x H' s1 s2 hi ⟨eh, hx⟩ => by
    subst eh
    obtain ⟨v, h1, h2⟩ := r.get (List.getElem?_eq_getElem hi)
    have h3 := hx xs (e.mono (s1.trans s2)).sq
    rw [h1] at h3
    cases h3
    exact ⟨_, B', List.getElem?_eq_getElem hi, .refl s2, h2.mono s1⟩
  small := hs
/-- pairs (i, item) -/
def enumD (ds : List D) : List D := ds.zipIdx.map fun p => .tuple [.int (p.2 : Nat), p.1]
theorem enumD_get {ds : List D} {i : Nat} {d : D} (h : ds[i]? = some d) : (enumD ds)[i]? = some (.tuple [.int (i : Nat), d]) := by
  unfold enumD
  rw [List.getElem?_map, List.getElem?_zipIdx, h]
  simp
theorem enumD_len (ds : List D) : (enumD ds).length = ds.length := by unfold enumD; simp
theorem it_enum {K : PySem.W.Frag} {B : Hp} {a : Addr} {xs : List V} {ds : List D} (e : B a = some (.lst xs)) (r : RpA B xs ds) (hs : ds.length ≤ sizeLine) : ItD (IteL K a) (enumD ds) B where
  go := fun i H sb hi => ⟨xs, xs[i]'(by rw [r.length]; rw [enumD_len] at hi; exact hi), .of (sb _ _ e), List.getElem?_eq_getElem _⟩
  stop := fun i H sb hi => ⟨xs, .of (sb _ _ e), by rw [r.length]; rw [enumD_len] at hi; exact hi⟩
  yld := fun i H B' x H' s1 s2 hi ⟨T, o, y, ex, hT, ho, eh, hx⟩ => by
    subst ex eh
    rw [enumD_len] at hi
    obtain ⟨v, h1, h2⟩ := r.get (List.getElem?_eq_getElem hi)
    have h3 := hx xs (.of (s2 _ _ (s1 _ _ e)))
    rw [h1] at h3
    obtain rfl := Option.some.inj h3
    have g : Gr H B' (upd H T (.tup [.int (i : Nat), v])) (upd B' T (.tup [.int (i : Nat), v])) := Gr.put s2 hT
    exact ⟨_, _, enumD_get (List.getElem?_eq_getElem hi), g, .tup (.put ho) (.cons (.int _) (.cons (h2.mono (s1.trans g.leB)) .nil))⟩
  small := by rw [enumD_len]; exact hs
theorem it_enumT {K : PySem.W.Frag} {B : Hp} {a : Addr} {xs : List V} {ds : List D} (e : Tp B a xs) (r : RpA B xs ds) (hs : ds.length ≤ sizeLine) : ItD (IteT K a) (enumD ds) B where
  go := fun i H sb hi => ⟨xs, xs[i]'(by rw [r.length]; rw [enumD_len] at hi; exact hi), (e.mono sb).sq, List.getElem?_eq_getElem _⟩
  stop := fun i H sb hi => ⟨xs, (e.mono sb).sq, by rw [r.length]; rw [enumD_len] at hi; exact hi⟩
  yld := fun i H B' x H' s1 s2 hi ⟨T, o, y, ex, hT, ho, eh, hx⟩ => by
    subst ex eh
    rw [enumD_len] at hi
    obtain ⟨v, h1, h2⟩ := r.get (List.getElem?_eq_getElem hi)
    have h3 := hx xs (e.mono (s1.trans s2)).sq
    rw [h1] at h3
    obtain rfl := Option.some.inj h3
    have g : Gr H B' (upd H T (.tup [.int (i : Nat), v])) (upd B' T (.tup [.int (i : Nat), v])) := Gr.put s2 hT
    exact ⟨_, _, enumD_get (List.getElem?_eq_getElem hi), g, .tup (.put ho) (.cons (.int _) (.cons (h2.mono (s1.trans g.leB)) .nil))⟩
  small := by rw [enumD_len]; exact hs
/-- lo, lo + 1, .. -/
def rngD (lo : Int) (n : Nat) : List D := (List.range n).map fun k => .int (lo + (k : Nat))
theorem it_rng {B : Hp} (lo : Int) (n : Nat) (hs : n ≤ sizeLine) : ItD (Itr lo n) (rngD lo n) B where
  go := fun i H sb hi => show i < n by unfold rngD at hi; simpa using hi
  stop := fun i H sb hi => show n ≤ i by unfold rngD at hi; simpa using hi
  yld := fun i H B' x H' s1 s2 hi ⟨eh, ex⟩ => by
    subst eh ex
    have hi' : i < n := by unfold rngD at hi; simpa using hi
    refine ⟨_, B', ?_, .refl s2, .int _⟩
    unfold rngD
    rw [List.getElem?_map, List.getElem?_range hi']
    rfl
  small := by unfold rngD; simpa using hs
def seqD : D → Option (List D)
  | .list ds => if ds.length ≤ sizeLine then some ds else none
  | .tuple ds => if ds.length ≤ sizeLine then some ds else none
  | _ => none
def fSq (f : Fx D) : Fx (List D) := fun δ => mb (f δ) fun d => ml (seqD d)
def enmD (d : D) : Option (List D) := (seqD d).map enumD
def fEn (f : Fx D) : Fx (List D) := fun δ => mb (f δ) fun d => ml (enmD d)
def rgD1 : List D → Option (List D)
  | [.int j] => if j ≤ (sizeLine : Nat) ∧ -(2 ^ 62) ≤ j then some (rngD 0 j.toNat) else none
  | _ => none
def rgD2 : List D → Option (List D)
  | [.int i, .int j] => if -(2 ^ 62) ≤ i ∧ i < 2 ^ 62 ∧ -(2 ^ 62) ≤ j ∧ j < 2 ^ 62 ∧ j - i ≤ (sizeLine : Nat) then some (rngD i (j - i).toNat) else none
  | _ => none
def fR1 (f : Fx (List D)) : Fx (List D) := fun δ => mb (f δ) fun d => ml (rgD1 d)
def fR2 (f : Fx (List D)) : Fx (List D) := fun δ => mb (f δ) fun d => ml (rgD2 d)
section
variable {X : Cx} {os : Option (Addr × Addr)} {f : Fx D} {fr : Fx (List D)} {e a b tg : Expr} {p pos tpos : Pos} {elts : List Expr} {kk : Nat}
theorem isq (he : PE X e (tS os f)) : PI X tg e (tI os (fSq f)) := by
  refine ⟨fun pins s σ H R I ⟨δ, st, B, F, ds, st', R0, ea, q⟩ => ?_⟩
  obtain ⟨d, s1, e1, eb⟩ := mb_some ea
  obtain ⟨e2, rfl⟩ := ml_some eb
  have fin : ∀ {P : It → Hp → Prop} {v : V} {H1 B1 : Hp}, True := trivial
  cases d with
  | list xs =>
    have e3 : (if xs.length ≤ sizeLine then some xs else none) = some ds := e2
    by_cases hl : xs.length ≤ sizeLine
    · rw [if_pos hl] at e3
      cases e3
      refine (pi_list (tg := tg) he).run pins s σ H R I ⟨δ, st, B, F, _, _, R0, e1, fun v H1 B1 l1 R1 r1 => ?_⟩
      cases r1 with
      | lst eb rr => exact ⟨_, rfl, ⟨_, .of (R1.sub _ _ eb)⟩, q _ H1 B1 l1 R1 (it_lst eb rr hl)⟩
    · rw [if_neg hl] at e3; cases e3
  | tuple xs =>
    have e3 : (if xs.length ≤ sizeLine then some xs else none) = some ds := e2
    by_cases hl : xs.length ≤ sizeLine
    · rw [if_pos hl] at e3
      cases e3
      refine (pi_tup (tg := tg) he).run pins s σ H R I ⟨δ, st, B, F, _, _, R0, e1, fun v H1 B1 l1 R1 r1 => ?_⟩
      cases r1 with
      | tup eb rr => exact ⟨_, rfl, ⟨_, (eb.mono R1.sub).sq⟩, q _ H1 B1 l1 R1 (it_tup eb rr hl)⟩
    · rw [if_neg hl] at e3; cases e3
  | _ => cases e2
theorem ien (hg : Gl X "enumerate") (hm : X.mg "enumerate" = none) (he : PE X e (tS os f)) (hs : starEach [e] X.env = [(false, eval e X.env)] := by rfl) :
    PI X (.Tuple elts kk tpos) (.Call (.Name "enumerate" p) [e] [] pos) (tI os (fEn f)) := by
  refine ⟨fun pins s σ H R I ⟨δ, st, B, F, ds, st', R0, ea, q⟩ => ?_⟩
  obtain ⟨d, s1, e1, eb⟩ := mb_some ea
  obtain ⟨e2, rfl⟩ := ml_some eb
  have ha : PA X [e] (tCons (tS os f) tNil) := pa_cons he pa_nil hs
  cases d with
  | list xs =>
    by_cases hl : xs.length ≤ sizeLine
    · have e3 : ((if xs.length ≤ sizeLine then some xs else none : Option (List D)).map enumD) = some ds := e2
      rw [if_pos hl] at e3
      cases e3
      refine (pi_enumL (pos := pos) (p := p) (elts := elts) (kk := kk) (tpos := tpos) hg hm ha hs).run pins s σ H R I ⟨δ, st, B, F, _, _, R0, e1, fun v H1 B1 l1 R1 r1 => ?_⟩
      cases r1 with
      | lst eb rr => exact ⟨_, _, rfl, .of (R1.sub _ _ eb), q _ H1 B1 l1 R1 (it_enum eb rr hl)⟩
    · have e3 : ((if xs.length ≤ sizeLine then some xs else none : Option (List D)).map enumD) = some ds := e2
      rw [if_neg hl] at e3; cases e3
  | tuple xs =>
    have e3 : ((if xs.length ≤ sizeLine then some xs else none : Option (List D)).map enumD) = some ds := e2
    by_cases hl : xs.length ≤ sizeLine
    · rw [if_pos hl] at e3
      cases e3
      refine (pi_enumT (pos := pos) (p := p) (elts := elts) (kk := kk) (tpos := tpos) hg hm ha hs).run pins s σ H R I ⟨δ, st, B, F, _, _, R0, e1, fun v H1 B1 l1 R1 r1 => ?_⟩
      cases r1 with
      | tup eb rr => exact ⟨_, _, rfl, (eb.mono R1.sub).sq, q _ H1 B1 l1 R1 (it_enumT eb rr hl)⟩
    · rw [if_neg hl] at e3; cases e3
  | _ => cases e2
theorem irg1 (hg : Gl X "range") (hm : X.mg "range" = none) (ha : PA X [a] (tA os fr)) (hs : starEach [a] X.env = [(false, eval a X.env)] := by rfl) : PI X tg (.Call (.Name "range" p) [a] [] pos) (tI os (fR1 fr)) :=
  (pi_range1 (pos := pos) (p := p) hg hm ha hs).wk fun σ H R ⟨δ, st, B, F, ds, st', R0, ea, q⟩ => by
    obtain ⟨d, s1, e1, eb⟩ := mb_some ea
    obtain ⟨e2, rfl⟩ := ml_some eb
    refine ⟨δ, st, B, F, d, _, R0, e1, fun vs H1 B1 l1 R1 r1 => ?_⟩
    unfold rgD1 at e2
    split at e2
    · next j =>
      split at e2
      · next hj =>
        cases e2
        cases r1 with
        | cons ra rr =>
          cases ra
          cases rr
          have := sizeLine_eq
          exact ⟨j, rfl, hj.2, by omega, q _ H1 B1 l1 R1 (it_rng 0 j.toNat (by omega))⟩
      · cases e2
    · cases e2
theorem irg2 (hg : Gl X "range") (hm : X.mg "range" = none) (ha : PA X [a, b] (tA os fr)) (hs : starEach [a, b] X.env = [(false, eval a X.env), (false, eval b X.env)] := by rfl) (hs2 : starEach [b] X.env = [(false, eval b X.env)] := by rfl) :
    PI X tg (.Call (.Name "range" p) [a, b] [] pos) (tI os (fR2 fr)) :=
  (pi_range2 (pos := pos) (p := p) hg hm ha hs hs2).wk fun σ H R ⟨δ, st, B, F, ds, st', R0, ea, q⟩ => by
    obtain ⟨d, s1, e1, eb⟩ := mb_some ea
    obtain ⟨e2, rfl⟩ := ml_some eb
    refine ⟨δ, st, B, F, d, _, R0, e1, fun vs H1 B1 l1 R1 r1 => ?_⟩
    unfold rgD2 at e2
    split at e2
    · next i j =>
      split at e2
      · next hj =>
        cases e2
        cases r1 with
        | cons ra rr =>
          cases ra
          cases rr with
          | cons rb rr =>
            cases rb
            cases rr
            exact ⟨i, j, rfl, ⟨hj.1, hj.2.1, hj.2.2.1, hj.2.2.2.1⟩, q _ H1 B1 l1 R1 (it_rng i (j - i).toNat (by omega))⟩
      · cases e2
    · cases e2
end
end VL

/-! VL7: built-in calls by data: len, abs, max, int, all, tuple, list, isinstance; methods; comprehensions as values. -/
namespace VL
open PySem PySem.Spec PyProof.Rows L2
section
variable {X : Cx}
def lenD : List D → Option D
  | [.list ds] => some (.int ds.length)
  | [.tuple ds] => some (.int ds.length)
  | [.str x] => if x.length ≤ sizeLine then some (.int x.length) else none
  | _ => none
theorem WkA.one {B H : Hp} {vs : List V} {d : D} (w : WkA B H vs [d]) : ∃ v, vs = [v] ∧ Wk B H v d := by
  cases w with
  | cons a r => cases r; exact ⟨_, rfl, a⟩
theorem WkA.two {B H : Hp} {vs : List V} {d d2 : D} (w : WkA B H vs [d, d2]) : ∃ v u, vs = [v, u] ∧ Wk B H v d ∧ Wk B H u d2 := by
  cases w with
  | cons a r =>
    obtain ⟨u, rfl, h⟩ := r.one
    exact ⟨_, _, rfl, a, h⟩
theorem olen : CallR X (.builtin "len") (rc lenD) := by
  intro pins s σ H xs us Q I r ⟨B, a, d, sb, w, e, q⟩
  unfold lenD at e
  split at e
  · next ds =>
    cases e
    obtain ⟨v, rfl, w1⟩ := w.one
    obtain ⟨p, ys, rfl, h, rr⟩ := w1.lst sb
    refine call_len_seq pins s σ H _ us Q I r ⟨p, ys, rfl, .inl (.of h), ?_⟩
    rw [rr.length]
    exact q _ H B (.refl sb) (.int _)
  · next ds =>
    cases e
    obtain ⟨v, rfl, w1⟩ := w.one
    obtain ⟨p, ys, rfl, h, _, rr⟩ := w1.tup sb
    refine call_len_seq pins s σ H _ us Q I r ⟨p, ys, rfl, .inr h.sq, ?_⟩
    rw [rr.length]
    exact q _ H B (.refl sb) (.int _)
  · next x =>
    split at e
    · next hx =>
      cases e
      obtain ⟨v, rfl, w1⟩ := w.one
      obtain rfl := w1.str
      exact call_len_str pins s σ H _ us Q I r ⟨x, rfl, hx, q _ H B (.refl sb) (.int _)⟩
    · cases e
  · cases e
def absD : List D → Option D
  | [.int i] => some (.int (if i < 0 then -i else i))
  | _ => none
theorem oabs : CallR X (.builtin "abs") (rc absD) := by
  intro pins s σ H xs us Q I r ⟨B, a, d, sb, w, e, q⟩
  unfold absD at e
  split at e
  · next i =>
    cases e
    obtain ⟨v, rfl, w1⟩ := w.one
    obtain rfl := w1.int
    exact call_abs pins s σ H _ us Q I r ⟨i, rfl, q _ H B (.refl sb) (.int _)⟩
  · cases e
def maxD : List D → Option D
  | [.int i, .int j] => some (.int (if j > i then j else i))
  | _ => none
theorem omax (hc : X.calm = true) : CallR X (.builtin "max") (rc maxD) := by
  intro pins s σ H xs us Q I r ⟨B, a, d, sb, w, e, q⟩
  unfold maxD at e
  split at e
  · next i j =>
    cases e
    obtain ⟨v, u, rfl, w1, w2⟩ := w.two
    obtain rfl := w1.int
    obtain rfl := w2.int
    exact call_max2 hc pins s σ H _ us Q I r ⟨i, j, rfl, q _ H B (.refl sb) (.int _)⟩
  · cases e
def minD : List D → Option D
  | [.int i, .int j] => some (.int (if j < i then j else i))
  | _ => none
theorem omin (hc : X.calm = true) : CallR X (.builtin "min") (rc minD) := by
  intro pins s σ H xs us Q I r ⟨B, a, d, sb, w, e, q⟩
  unfold minD at e
  split at e
  · next i j =>
    cases e
    obtain ⟨v, u, rfl, w1, w2⟩ := w.two
    obtain rfl := w1.int
    obtain rfl := w2.int
    exact call_min2 hc pins s σ H _ us Q I r ⟨i, j, rfl, q _ H B (.refl sb) (.int _)⟩
  · cases e
def intD : List D → Option D
  | [.int i] => some (.int i)
  | [.bool b] => some (.int (if b then 1 else 0))
  | _ => none
theorem oint : CallR X (.type "int") (rc intD) := by
  intro pins s σ H xs us Q I r ⟨B, a, d, sb, w, e, q⟩
  unfold intD at e
  split at e
  · next i =>
    cases e
    obtain ⟨v, rfl, w1⟩ := w.one
    obtain rfl := w1.int
    exact call_int1 pins s σ H _ us Q I r (.inl ⟨i, rfl, q _ H B (.refl sb) (.int _)⟩)
  · next b =>
    cases e
    obtain ⟨v, rfl, w1⟩ := w.one
    obtain rfl := w1.bl
    exact call_int1 pins s σ H _ us Q I r (.inr ⟨b, rfl, q _ H B (.refl sb) (.int _)⟩)
  · cases e
/-- a row of truth values -/
def blsOf : List D → Option (List Bool)
  | [] => some []
  | .bool b :: r => (blsOf r).map (b :: ·)
  | _ => none
theorem blsOf_some : ∀ {ds : List D} {bs : List Bool}, blsOf ds = some bs → ds = bs.map PyData.bool
  | [], bs, e => by cases e; rfl
  | .bool b :: r, bs, e => by
    unfold blsOf at e
    obtain ⟨cs, h1, h2⟩ := Option.map_eq_some_iff.mp e
    subst h2
    rw [blsOf_some h1]; rfl
  | .none :: _, _, e => by cases e
  | .int _ :: _, _, e => by cases e
  | .str _ :: _, _, e => by cases e
  | .list _ :: _, _, e => by cases e
  | .tuple _ :: _, _, e => by cases e
  | .dict _ :: _, _, e => by cases e
theorem blsOf_map : ∀ bs : List Bool, blsOf (bs.map PyData.bool) = some bs
  | [] => rfl
  | b :: r => by
    rw [List.map_cons]
    unfold blsOf
    rw [blsOf_map r]; rfl
def allD : List D → Option D
  | [.list ds] => (blsOf ds).map fun bs => .bool (bs.all id)
  | _ => none
theorem oall (hc : X.calm = true) : CallR X (.builtin "all") (rc allD) := by
  intro pins s σ H xs us Q I r ⟨B, a, d, sb, w, e, q⟩
  unfold allD at e
  split at e
  · next ds =>
    obtain ⟨bs, h1, rfl⟩ := Option.map_eq_some_iff.mp e
    obtain ⟨v, rfl, w1⟩ := w.one
    obtain ⟨p, ys, rfl, h, rr⟩ := w1.lst sb
    obtain rfl := blsOf_some h1
    obtain rfl := rr.bls
    exact cr_all hc pins s σ H _ us Q I r ⟨p, bs, rfl, .of h, q _ H B (.refl sb) (.bl _)⟩
  · cases e
def tupleD : List D → Option D
  | [.list ds] => some (.tuple ds)
  | [.tuple ds] => some (.tuple ds)
  | _ => none
/-- tuple(xs) of a list: a new tuple whose record is known -/
theorem call_tupleZ : CallR X (.type "tuple") (fun xs H Q => ∃ p ys, xs = [.ref p] ∧ SqL X.K H p ys ∧ ∀ (l : Addr) (o : Obj), H l = none → o.dict = none → Q (.ref l) (upd H l (.tup ys))) := by
  intro pins s σ H xs us Q I r h
  obtain ⟨p, ys, rfl, hq, q⟩ := h
  obtain ⟨u, rfl, rx⟩ := vals1 r
  cases rx
  obtain ⟨its, r', pl, hz⟩ := I.list hq
  have hlen := r'.length
  refine call_tuple_list pl.isList (fun h' kp => ?_) (by simp only [List.size_toArray] <;> omega)
  have I1 : Inv X pins σ H { s with heap := h' } := I.kept (t' := s.toks) kp
  let o : Obj := { cls := .type "tuple", data := .seq its.toArray }
  have I2 : Inv X pins σ (upd H h'.objs.size (.tup ys)) { s with heap := h'.push { cls := .type "tuple", data := .seq its.toArray } } :=
    I1.laid (t' := s.toks) (fun b o e => Heap.get?_push_of_some _ e) (Nat.le_refl _) (show ObjOk X.prog X.w _ _ _ (.tup ys) from ⟨hz, its, r', IsTup.new _ _⟩)
  exact ⟨.ref h'.objs.size, _, I2, rfl, q _ o (I1.hok.fresh (Nat.le_refl _)) rfl⟩
theorem otuple : CallR X (.type "tuple") (rc tupleD) := by
  intro pins s σ H xs us Q I r ⟨B, a, d, sb, w, e, q⟩
  unfold tupleD at e
  split at e
  · next ds =>
    cases e
    obtain ⟨v, rfl, w1⟩ := w.one
    obtain ⟨p, ys, rfl, h, rr⟩ := w1.lst sb
    refine call_tupleZ pins s σ H _ us Q I r ⟨p, ys, rfl, .of h, fun l o hl ho => ?_⟩
    have g : Gr H B (upd H l (.tup ys)) (upd B l (.tup ys)) := Gr.put sb hl
    exact q _ _ _ g (.tup (.put ho) (rr.mono g.leB))
  · next ds =>
    cases e
    obtain ⟨v, rfl, w1⟩ := w.one
    obtain ⟨p, ys, rfl, h, hb, rr⟩ := w1.tup sb
    exact call_tuple_of pins s σ H _ us Q I r ⟨p, ys, rfl, .inr ⟨h.sq, q _ H B (.refl sb) (.tup hb rr)⟩⟩
  · cases e
def listD : List D → Option D
  | [.list ds] => some (.list ds)
  | [.tuple ds] => some (.list ds)
  | _ => none
theorem olist : CallR X (.type "list") (rcF listD) := by
  intro pins s σ H xs us Q I r ⟨B, a, d, sb, w, e, q⟩
  have fin : ∀ {ys : List V} {ds : List D}, RpA B ys ds → d = .list ds → ∀ l, H l = none → Q (.ref l) (upd H l (.lst ys)) := fun {ys ds} rr ed l hl => by
    subst ed
    have g : Gr H B (upd H l (.lst ys)) B := Gr.own sb hl
    exact q _ _ _ g hl (sub_none sb hl) ⟨_, upd_same, rr⟩
  unfold listD at e
  split at e
  · next ds =>
    cases e
    obtain ⟨v, rfl, w1⟩ := w.one
    obtain ⟨p, ys, rfl, h, rr⟩ := w1.lst sb
    exact call_list_of pins s σ H _ us Q I r ⟨p, ys, rfl, .inl (.of h), fin rr rfl⟩
  · next ds =>
    cases e
    obtain ⟨v, rfl, w1⟩ := w.one
    obtain ⟨p, ys, rfl, h, hb, rr⟩ := w1.tup sb
    exact call_list_of pins s σ H _ us Q I r ⟨p, ys, rfl, .inr h.sq, fin rr rfl⟩
  · cases e

/-! ### isinstance -/
def typD : D → String
  | .none => "NoneType"
  | .bool _ => "bool"
  | .int _ => "int"
  | .str _ => "str"
  | .list _ => "list"
  | .tuple _ => "tuple"
  | .dict _ => "dict"
/-- isinstance(d, T), T one of tuple, int, bool, str -/
def isiD (T : String) (d : D) : Option D := (kitB (typD d) T).map .bool
variable {os : Option (Addr × Addr)} {f : Fx D} {a : Expr} {p pos tp : Pos}
theorem Rp.ty {K : PySem.W.Frag} {B H : Hp} {v : V} {d : D} (r : Rp B v d) (sb : Same B H) : TyX K H v (.type (typD d)) := by
  cases r with
  | non => exact .base .non
  | bl b => exact .base (.bl b)
  | int i => exact .base (.int i)
  | str x => exact .base (.str x)
  | lst e a => exact .base (.lst (sb _ _ e))
  | tup e a => exact .base (.tup (sb _ _ e))
  | dik e a => exact .base (.dK (sb _ _ e))
  | dit e a n => exact .base (.dT (sb _ _ e))
theorem eisi {T : Str} {Tn : String} (hT : T = Str.ofString Tn) (hg : Gl X "isinstance") (hm : X.mg "isinstance" = none) (hgT : Gl X T) (hmT : X.mg T = none) (hv : bootBuiltins T = some (.type Tn)) (ha : PE X a (tS os f)) (hnT : T ≠ "__name__") (hdT : (T == ("__debug__" : Str)) = false)
    (he : starEach [a, .Name T tp] X.env = (false, eval a X.env) :: starEach [.Name T tp] X.env := by rfl) (hpl : (backTo pos (starEach [.Name T tp] X.env)).any (·.1) = false := by rfl) :
    PE X (.Call (.Name "isinstance" p) [a, .Name T tp] [] pos) (tS os (f1 (isiD Tn) f)) := by
  have hb : PE X (.Name T tp) (tC (.ty Tn)) := pe_bltn hgT hmT hv rfl hnT hdT
  refine (pe_callB (X := X) (x := "isinstance") call_isi hg hm (by decide +kernel) (pa_cons ha (pa_cons hb pa_nil) he) (by decide) (by decide) he hpl).wk fun σ H Q ⟨δ, st, B, F, d, st', R, ea, q⟩ => ?_
  obtain ⟨x, s1, e1, eb⟩ := mb_some ea
  obtain ⟨e2, rfl⟩ := ml_some eb
  obtain ⟨b, h1, rfl⟩ := Option.map_eq_some_iff.mp e2
  refine ⟨δ, st, B, F, x, _, R, e1, fun v H1 B1 l1 R1 r1 => ?_⟩
  exact ⟨v, .ty Tn, _, _, b, rfl, .ty Tn, r1.ty R1.sub, kit_ty h1, q _ H1 B1 l1 R1 (.bl b)⟩
end
end VL

/-! VL8: methods, [::-1], comprehensions as values, dicts, stars. -/
namespace VL
open PySem PySem.Spec PyProof.Rows L2

section
variable {prog : Program} {w : World} {A : Around} {E : Value → Shared → Prop} {s : Shared}
theorem fm_congr {α β : Type} {f g : α → Option β} : ∀ {l : List α}, (∀ x ∈ l, f x = g x) → l.filterMap f = l.filterMap g
  | [], _ => rfl
  | a :: l, h => by
    rw [List.filterMap_cons, List.filterMap_cons, h a (.head _), fm_congr (l := l) fun x hx => h x (.tail _ hx)]
theorem pick_back (xs : Array Value) : ((List.range xs.size).filterMap fun (m : Nat) => xs[((xs.size : Int) - 1 + (m : Int) * (-1)).toNat]?).toArray = xs.toList.reverse.toArray := by
  have e : (List.range xs.size).filterMap (fun (m : Nat) => xs[((xs.size : Int) - 1 + (m : Int) * (-1)).toNat]?) = ((List.range xs.size).map fun k => xs.size - 1 - k).filterMap (xs[·]?) := by
    rw [List.filterMap_map]
    refine fm_congr fun m hm => ?_
    have := List.mem_range.mp hm
    show xs[((xs.size : Int) - 1 + (m : Int) * (-1)).toNat]? = xs[xs.size - 1 - m]?
    have e2 : ((xs.size : Int) - 1 + (m : Int) * (-1)).toNat = xs.size - 1 - m := by omega
    rw [e2]
  rw [e, PySem.W.krv_range, List.filterMap_reverse, PySem.W.krv_all]
theorem places_back (n : Nat) : Builtin.Slice.slicePlaces ((n : Int) - 1) (-1) (-1) = n := by
  unfold Builtin.Slice.slicePlaces
  have h1 : ¬ ((-1 : Int) > 0) := by decide
  simp only [h1, if_false]
  split
  · rw [show (- -1 : Int) = 1 by decide, Int.ediv_one]; omega
  · omega
theorem getItem_tuple_back {t sl : Addr} {items : Array Value} {vs : Value} {Q : Value → Shared → Prop} (ht : IsTup s.heap t items) (hs : s.heap.IsSliceOf sl .none .none vs) (ps : IsPart vs (some (-1)))
    (h : Q (.ref s.heap.objs.size) { s with heap := s.heap.push { cls := .type "tuple", data := .seq items.toList.reverse.toArray } })
    (hsz : items.size ≤ sizeLine) : wpAny (model prog w) A (getItem (.ref t) (.ref sl)) Q E s := by
  have htake : sizeOk (.seq items.toList.reverse.toArray) := by
    show items.toList.reverse.toArray.size ≤ sizeLine
    rw [List.size_toArray, List.length_reverse, Array.length_toList]
    exact hsz
  obtain ⟨os, hos, hcs, hds⟩ := id hs
  have hTs : s.TypeIs (.ref sl) "slice" := ⟨os, hos, hcs⟩
  unfold getItem
  try with_reducible refine wpAny_holding ?_
  first | refine wpAny_bind (wpAny_pure ?_) | skip
  refine wpAny_bind (wpAny_sequenceKey ht.typeIs (by decide) ?_)
  refine wpAny_bind (wpAny_callSpecial?_slot (name := Str.ofString "__getitem__") ht.typeIs PyProof.Rows.slot_tuple_getitem
    (wpAny_call_entry PyProof.Rows.slot_tuple_getitem ht.typeIs PyProof.Rows.entry_tuple_getitem ?_ (PyProof.Rows.args_tuple_getitem _ _)))
  show wpAny _ _ (Builtin.Tuple.tupleItemsOf (.ref t) >>= _) _ _ s
  refine wpAny_bind (tupleItemsOf_ ht ?_)
  refine wpAny_bind (wpAny_typeOf hTs ?_)
  rw [if_pos (by decide)]
  refine wpAny_bind ?_
  unfold Builtin.Slice.sliceApplied Builtin.Slice.sliceFields
  refine wpAny_bind (wpAny_bind (wpAny_field hos hds (x := .none) rfl (wpAny_bind (wpAny_field hos hds (x := .none) rfl (wpAny_bind (wpAny_field hos hds (x := vs) rfl (wpAny_pure ?_)))))))
  refine wpAny_bind (HT.slicePart_ ps ?_)
  show wpAny _ _ (if ((-1 : Int) == 0) = true then _ else _) _ _ s
  rw [if_neg (by decide)]
  refine wpAny_bind (HT.slicePart_ .none (wpAny_bind (HT.slicePart_ .none (wpAny_bind (wpAny_pure ?_)))))
  show wpAny _ _ (match Builtin.Slice.sliceAdjust none none (-1) (items.size : Int) with | (lo, hi) => pure (lo, (-1 : Int), Builtin.Slice.slicePlaces lo hi (-1))) _ _ s
  have e : Builtin.Slice.sliceAdjust none none (-1) (items.size : Int) = ((items.size : Int) - 1, -1) := rfl
  rw [e]
  show wpAny _ _ (pure ((items.size : Int) - 1, (-1 : Int), Builtin.Slice.slicePlaces ((items.size : Int) - 1) (-1) (-1))) _ _ s
  rw [places_back]
  refine wpAny_pure ?_
  show wpAny _ _ (if (((items.size : Int) - 1) == 0 && (-1 : Int) == 1 && items.size == items.size) = true then _ else _) _ _ s
  have hno : ¬ ((((items.size : Int) - 1) == 0 && (-1 : Int) == 1 && items.size == items.size) = true) := by
    intro q
    rw [Bool.and_eq_true, Bool.and_eq_true] at q
    exact absurd q.1.2 (by decide)
  rw [if_neg hno, pick_back]
  first
    | exact wpAny_bind (m := Builtin.Tuple.tupleExact _) (wpAny_newObj_type (wpAny_pure ⟨_, rfl, wpAny_pure h⟩) htake)
    | exact wpAny_bind (m := Builtin.Tuple.tupleExact _) (wpAny_newObj_type (wpAny_bind (wpAny_pure (wpAny_pure ⟨_, rfl, wpAny_pure h⟩))) htake)
    | exact wpAny_bind (wpAny_bind (m := Builtin.Tuple.tupleExact _) (wpAny_newObj_type (wpAny_pure (wpAny_pure ⟨_, rfl, wpAny_pure h⟩)) htake))
    | exact wpAny_bind (wpAny_bind (m := Builtin.Tuple.tupleExact _) (wpAny_newObj_type (wpAny_pure ⟨_, rfl, wpAny_pure h⟩) htake))
end
section
variable {X : Cx} {os : Option (Addr × Addr)} {f : Fx D} {e : Expr} {k : Nat} {p1 p2 p3 pos : Pos}
def revD : D → Option D
  | .tuple ds => some (.tuple ds.reverse)
  | .list ds => some (.list ds.reverse)
  | _ => none
/-- e[::-1] of a tuple or a list, which one it is told by the datum -/
theorem erev (he : PE X e (tW os f)) : PE X (.Subscript e (.Slice none none (some (.UnaryOp .USub (.Constant (.int 1) k p1) p2)) p3) pos) (tS os (f1 revD f)) := by
  refine ⟨fun pins s σ H Q I ⟨δ, st, B, F, d, st', R, ea, q⟩ => ?_⟩
  obtain ⟨x, s1, e1, eb⟩ := mb_some ea
  obtain ⟨e2, rfl⟩ := ml_some eb
  cases x with
  | list ds =>
    cases e2
    refine (pe_revL he).run pins s σ H Q I ⟨δ, st, B, F, _, _, R, e1, fun v H1 B1 l1 R1 w1 => ?_⟩
    obtain ⟨a, xs, rfl, h, rr⟩ := (w1.wk R1).lst R1.sub
    refine ⟨a, xs, rfl, .of h, fun p hp => ?_⟩
    have g : Gr H1 B1 (upd H1 p (.lst xs.reverse)) (upd B1 p (.lst xs.reverse)) := Gr.put R1.sub hp
    exact q _ _ _ (l1.trans g.leB) (R1.grow g) (.lst upd_same (rr.reverse.mono g.leB))
  | tuple ds =>
    cases e2
    refine Subscript_ (thn (he.run pins s σ H (fun v H1 => ∃ B1, Same B B1 ∧ Rel os δ st' σ H1 B1 F ∧ Wz δ σ B1 v (.tuple ds)) I ⟨δ, st, B, F, _, _, R, e1, fun v H1 B1 l1 R1 w1 => ⟨B1, l1, R1, w1⟩⟩) fun v s5 ⟨x, H1, I1, r1, B1, l1, R1, w1⟩ => ?_)
    obtain ⟨a, xs, rfl, h, _, rr⟩ := (w1.wk R1).tup R1.sub
    cases r1
    have hst : PO X (some (.UnaryOp .USub (.Constant (.int 1) k p1) p2)) (tPart (tUn (rU fun i => .int (-i)) (tC (.int 1)))) := po_some (pe_un un_neg pe_int)
    refine wpAny_Slice (thn (po_none.run pins s5 σ H1 (fun o H2 => o = none ∧ H2 = H1) I1 ⟨rfl, rfl⟩) fun vl s2 ⟨l, H2, I2, pl, el, e2⟩ => ?_)
    subst el e2
    refine thn (po_none.run pins s2 σ H2 (fun o H3 => o = none ∧ H3 = H2) I2 ⟨rfl, rfl⟩) fun vu s3 ⟨u, H3, I3, pu, eu, e3⟩ => ?_
    subst eu e3
    refine thn (hst.run pins s3 σ H3 (fun o H4 => o = some (-1) ∧ H4 = H3) I3 ⟨1, rfl, -1, rfl, rfl, rfl⟩) fun vs s4 ⟨o, H4, I4, ps, eo, e4⟩ => ?_
    subst eo e4
    have I5 : Inv X pins σ H4 { s4 with heap := s4.heap.push { cls := .type "slice", data := .fields #[vl, vu, vs] } } := I4.kept (t' := s4.toks) fun b ob q => Heap.get?_push_of_some _ q
    obtain ⟨its, r, ht, hz⟩ := I5.tuple h.sq
    have hlen := r.length
    cases pl
    cases pu
    show wpAny (model X.prog X.w) X.A (subscriptTail e (.Slice none none (some (.UnaryOp .USub (.Constant (.int 1) k p1) p2)) p3) (.ref a) (.ref s4.heap.objs.size)) (EP X pins σ Q) X.xe { s4 with heap := s4.heap.push { cls := .type "slice", data := .fields #[.none, .none, vs] } }
    refine tail_any (ops := [.ref a, .ref s4.heap.objs.size]) (T := "tuple") ht.typeIs (PyProof.Rows.slot_tuple_getitem.lookup) ?_ (by with_unfolding_all rfl)
    refine getItem_tuple_back ht (Heap.IsSliceOf.new _ .none .none vs) ps ?_ (by rw [List.size_toArray]; omega)
    let o : Obj := { cls := .type "tuple", data := .seq its.reverse.toArray }
    have g : Gr H4 B1 (upd H4 (s4.heap.push { cls := .type "slice", data := .fields #[.none, .none, vs] }).objs.size (.tup xs.reverse)) (upd B1 (s4.heap.push { cls := .type "slice", data := .fields #[.none, .none, vs] }).objs.size (.tup xs.reverse)) := Gr.put R1.sub (I5.hok.fresh (Nat.le_refl _))
    refine ⟨.ref _, _, I5.laid (t' := s4.toks) (o := .tup xs.reverse) (fun b ob q => Heap.get?_push_of_some _ q) (Nat.le_refl _) ?_, rfl, q _ _ _ (l1.trans g.leB) (R1.grow g) (.tup upd_same (rr.reverse.mono g.leB))⟩
    exact ⟨by rw [List.length_reverse]; exact hz, _, r.reverse, IsTup.new _ _⟩
  | _ => cases e2
end
section
variable {X : Cx} {os : Option (Addr × Addr)} {f g : Fx D} {fr : Fx (List D)} {t : Fx Bool} {e : Expr} {p pos cpos apos : Pos}

/-! ### comprehensions -/
theorem qnil : PTs X [] (tT os fun _ => mp true) := pts_nil.wk fun σ H Q ⟨δ, st, B, F, d, st', R, e, q⟩ => by
  obtain ⟨rfl, rfl⟩ := mp_some e
  exact q H B (.refl _) R
theorem qone {c : Expr} (h : PT X c (tT os t)) : PTs X [c] (tT os t) := pts_one h
/-! ### l.append(e), l.pop(0) -/
def appD (i : Nat) (d : D) (δ : List Slot) : Option (List Slot) := match δ[i]? with
  | some (.own (.list ds)) => if ds.length < sizeLine then some (δ.set i (.own (.list (ds ++ [d])))) else none
  | _ => none
def sApp (i : Nat) (f : Fx D) : Fx Flow := fun δ => mb (f δ) fun d => mb (ml (appD i d δ)) fun δ' => mp (.nx δ')
theorem sapp {i : Nat} {o : Expr} (ho : PE X o (tVar i)) (he : PE X e (tS os f))
    (hbase : attributeBase o "append" X.env (eval o X.env) = eval o X.env := by rfl)
    (hfew : ((backTo cpos (starEach [e] X.env)).all (fun x => !x.1) && (backToKw cpos (keywordEach [] X.env)).all (fun x => x.1.isSome)
      && decide ([e].length + ([] : List Keyword).length + (if ([] : List Keyword).isEmpty then 0 else 1) < 30)) = true := by rfl)
    (hline : (apos.endLine == cpos.line) = true := by rfl) (hs : starEach [e] X.env = (false, eval e X.env) :: starEach [] X.env := by rfl) (hplain : (backTo cpos (starEach [] X.env)).any (·.1) = false := by rfl)
    (hsw : swapsWith (.Call (.Attribute o "append" apos) [e] [] cpos) none pos.line X.env = pure false := by rfl) :
    PS X (.Expr (.Call (.Attribute o "append" apos) [e] [] cpos) pos) (tB os (sApp i f)) :=
  (ps_expr (pe_bm PySem.F.plainAttrs_list PySem.F.slot_list_append PySem.F.type_list_append mt_append ho (pa_cons he pa_nil hs) hbase hfew hline hs hplain) hsw).wk fun E σ H ⟨δ, st, B, F, fl, st', R, ea, x⟩ => by
    obtain ⟨d, s1, e1, eb⟩ := mb_some ea
    obtain ⟨δ', s2, e2, ec⟩ := mb_some eb
    obtain ⟨e3, rfl⟩ := ml_some e2
    obtain ⟨rfl, rfl⟩ := mp_some ec
    unfold appD at e3
    split at e3
    · next ds hsl =>
      split at e3
      · next hl =>
        cases e3
        obtain ⟨p, ep, ⟨xs, hx, rx⟩, _⟩ := R.own i _ hsl
        refine ⟨.ref p, ep, .inl ⟨rfl, _, .of hx⟩, δ, st, B, F, d, _, R, e1, fun v H1 B1 l1 R1 r1 => ?_⟩
        obtain ⟨p', ep', ⟨ys, hy, ry⟩, _⟩ := R1.own i _ hsl
        have ep2 : p' = p := by rw [ep] at ep'; cases ep'; rfl
        subst ep2
        refine ⟨p', ys, v, rfl, rfl, hy, by rw [ry.length]; exact hl, ?_⟩
        exact x σ _ _ l1 (R1.write hsl ep ⟨_, upd_same, ry.append (.cons r1 .nil)⟩)
      · cases e3
    · cases e3
def pop0D (i j : Nat) (δ : List Slot) : Option (List Slot) := match δ[j]? with
  | some (.own (.list (d :: ds))) => some ((δ.set j (.own (.list ds))).set i (.val d))
  | _ => none
def sPop0 (i j : Nat) : Fx Flow := fun δ => mb (ml (pop0D i j δ)) fun δ' => mp (.nx δ')
theorem spop0 {st : Stmt} {i j : Nat} {te : TE} (h : PS X st (tAsg te (gName i))) (hf : ∀ σ H Q, tBM X.K "list" rPopAt (tVar j) (tCons (tC (.int 0)) tNil) σ H Q → te σ H Q := by intro _ _ _ q; exact q) : PS X st (tB os (sPop0 i j)) :=
  h.wk fun E σ H ⟨δ, st, B, F, fl, st', R, ea, x⟩ => by
    obtain ⟨δ', s2, e2, ec⟩ := mb_some ea
    obtain ⟨e3, rfl⟩ := ml_some e2
    obtain ⟨rfl, rfl⟩ := mp_some ec
    unfold pop0D at e3
    split at e3
    · next d ds hsl =>
      cases e3
      obtain ⟨p, ep, ⟨xs, hx, rx⟩, _⟩ := R.own j _ hsl
      cases rx with
      | @cons v vs _ _ r1 rr =>
        refine hf σ H _ ⟨.ref p, ep, .inl ⟨rfl, _, .of hx⟩, ?_⟩
        refine ⟨p, v :: vs, 0, 0, v, rfl, rfl, hx, by decide, by decide, ?_, rfl, ?_⟩
        · unfold seqIndex?
          simp
        · exact x _ _ _ (.refl _) ((R.write (d' := .list ds) (o := .lst vs) hsl ep ⟨_, upd_same, rr⟩).set i (r1))
    · cases e3
end
end VL

/-! VL9: sorted by data (alike data; tuples may be empty), list.count and tuple.count of ints. -/
namespace VL
open PySem PySem.Spec PyProof.Rows L2 PySem.W PySem.SeqAt

section
variable {prog : Program} {w : World} {A : Around} {s : Shared}
theorem call_tuple_ltA {E : Value → Shared → Prop} {Q : Value → Shared → Prop} {l b : Addr} {items items2 : Array Value} {e r : Nat → Bool} (hl : s.heap.IsTuple l items) (hb : s.heap.IsTuple b items2)
    (he : ∀ j (h1 : j < items.size) (h2 : j < items2.size), EqAt A.in1 s items[j] items2[j] (e j)) (hr : ∀ j (h1 : j < items.size) (h2 : j < items2.size), e j = false → RcLt A.in1 s items[j] items2[j] (r j))
    (h : Q (.bool (firstLt e r (decide (items.size < items2.size)) (List.range (min items.size items2.size)))) s) : wpAny (model prog w) A (call (.builtin "tuple.__lt__") [.ref l, .ref b]) Q E s := by
  obtain ⟨⟨cls, dd, data, sl⟩, ho, hc, n, hd⟩ := id hl
  obtain ⟨⟨cls2, dd2, data2, sl2⟩, ho2, hc2, n2, hd2⟩ := id hb
  simp only at hc hd hc2 hd2
  subst hc hd hc2 hd2
  exact call_meets F.slot_tuple_lt ⟨_, ho, rfl⟩ F.entry_tuple_lt (F.args_tuple_lt_2 _ _) (tuple_ltAt l b items items2 n n2 dd dd2 sl sl2 e r) ⟨ho, ho2, he, hr, h⟩
/-- tuples against each other, by their own comparison -/
theorem oneLt_tups {xs ys : List PyData} {a b : Value} {as bs : List Addr} {E : Value → Shared → Prop} {Q : Bool → Shared → Prop} (ra : Reads s.heap a (.tuple xs) as) (rb : Reads s.heap b (.tuple ys) bs) (hal : alikeAll xs ys = true)
    (hu : A.units + min (PyData.tuple xs).depth (PyData.tuple ys).depth < cLine) (hq : Q (dataLt (.tuple xs) (.tuple ys)) s) : wpAny (model prog w) A (oneLt' true a b) Q E s := by
  cases ra with
  | @tuple l o vs n _ as₁ h1 h2 h3 h4 =>
    cases rb with
    | @tuple l' o' vs' n' _ bs₁ k1 k2 k3 k4 =>
      have n1 : vs.size = xs.length := by simpa using ReadsAll.length _ _ _ h4
      have n2 : vs'.size = ys.length := by simpa using ReadsAll.length _ _ _ k4
      rw [dataLt_tuple, ← firstLt_toks xs ys hal, ← n1, ← n2] at hq
      rw [oneLt'_eq]
      simp only [if_true]
      refine wpAny_bind (wpAny_cRoomFor (room_here hu) ?_)
      refine wpAny_bind (wpAny_callSpecialIfBound?_slot (T := "tuple") ⟨_, h1, h2⟩ F.slot_tuple_lt (call_tuple_ltA (e := pairEq xs ys) (r := fun j => dataLt (xs.getD j .none) (ys.getD j .none)) ⟨_, h1, h2, _, h3⟩ ⟨_, k1, k2, _, k3⟩ (fun j j1 j2 => ?_) (fun j j1 j2 hj => ?_) ?_))
      · have := eqAt_alikeAll xs ys A.in1 s vs.toList vs'.toList _ _ h4 k4 hal (room_in hu) j (by simpa using j1) (by simpa using j2)
        simpa using this
      · have := rcLt_alikeAll xs ys A.in1 s vs.toList vs'.toList _ _ h4 k4 hal (room_in hu) j (by simpa using j1) (by simpa using j2) hj
        simpa using this
      · exact wpAny_truthy_bool hq

/-- all of them tuples -/
theorem firsts_any {M : Model} {E : Value → Shared → Prop} : ∀ {vs : List Value} {ds : List PyData} {Q : List (Option Value) → Shared → Prop}, EachIs (fun v d => ∃ as, Reads s.heap v d as) vs ds → (∀ d, d ∈ ds → ∃ xs, d = .tuple xs) →
    (∀ os : List (Option Value), os.length = ds.length → (∀ (i : Nat) (d : PyData), ds[i]? = some d → ∃ o : Option Value, os[i]? = some o ∧ (o = none ↔ d = .tuple [])) → Q os s) → wpAny M A (vs.mapM firstOfTuple') Q E s
  | _, _, Q, .nil, _, h => by
    rw [List.mapM_nil]
    exact wpAny_pure (h [] rfl fun i d e => by simp at e)
  | _, _, Q, .cons (a := v) (b := d) (as := vs) (bs := ds) ⟨as, r⟩ t, ht, h => by
    obtain ⟨xs, rfl⟩ := ht d (List.mem_cons_self ..)
    cases r with
    | @tuple a o ys n _ _ ho hc hd hr =>
      rw [List.mapM_cons]
      refine wpAny_bind ?_
      rw [kas_first_eq]
      refine wpAny_bind (Looks.here (show Looks M s.heap (typeOf (.ref a)) o.cls from (Looks.ld ho).andThen .now) ?_)
      rw [hc, if_neg (by first | decide | simp)]
      refine wpAny_bind (listItems_at ho hd (wpAny_pure ?_))
      refine wpAny_bind (firsts_any (Q := fun bs s' => wpAny M A (pure (ys[0]? :: bs)) Q E s') t (fun d hd => ht d (List.mem_cons_of_mem _ hd)) fun os hl hn => wpAny_pure (h _ (by rw [List.length_cons, List.length_cons, hl]) fun i d e => ?_))
      cases i with
      | zero =>
        have e' : PyData.tuple xs = d := Option.some.inj e
        subst e'
        have hz := SeqAt.ReadsAll.length _ _ _ hr
        refine ⟨_, rfl, fun z => ?_, fun z => ?_⟩
        · have z1 : ys.size ≤ 0 := by simpa using z
          have z2 : xs.length = 0 := by
            have : ys.toList.length = xs.length := by simpa using hz
            rw [← this, Array.length_toList]; omega
          rw [List.eq_nil_of_length_eq_zero z2]
        · have ex : xs = [] := by cases z; rfl
          subst ex
          have : ys.toList = [] := List.eq_nil_of_length_eq_zero (by simpa using hz)
          rw [← Array.getElem?_toList, this]; rfl
      | succ i => exact hn i d (by simpa using e)
theorem kind_mixed {M : Model} {E : Value → Shared → Prop} {vs : List Value} {ds : List PyData} {Q : SortKind → Shared → Prop} (e : EachIs (fun v d => ∃ as, Reads s.heap v d as) vs ds) (ht : ∀ d, d ∈ ds → ∃ xs, d = .tuple xs) (hm : PyData.tuple [] ∈ ds)
    (hg : ds[0]? ≠ some (.tuple []) → Q general' s) (ho : ds[0]? = some (.tuple []) → Q oneType' s) : wpAny M A (keyKind' vs.toArray) Q E s := by
  obtain ⟨i, hi, ei⟩ := List.mem_iff_getElem.mp hm
  rw [kat_kind_eq, List.mapM_toArray, map_eq_pure_bind]
  refine wpAny_bind (wpAny_bind (firsts_any e ht fun os hl hn => wpAny_pure ?_))
  have hno : ¬ ((os.toArray.all fun x => x.isSome) = true) := by
    intro q
    obtain ⟨o, h1, h2⟩ := hn i _ (List.getElem?_eq_getElem hi)
    rw [h2.mpr ei] at h1
    have q' : os.all (fun x => x.isSome) = true := by simpa using q
    have := List.all_eq_true.mp q' none (List.mem_of_getElem? h1)
    cases this
  rw [if_neg hno]
  split
  · next hs =>
    refine wpAny_pure (hg fun z => ?_)
    obtain ⟨o, h1, h2⟩ := hn 0 _ z
    rw [h2.mpr rfl] at h1
    have h3 : os.toArray[0]? = some none := by simpa using h1
    rw [h3] at hs
    cases hs
  · next hs =>
    have hfst : ds[0]? = some (.tuple []) := by
      cases ds with
      | nil => cases hm
      | cons d0 ds0 =>
        obtain ⟨o, h1, h2⟩ := hn 0 d0 rfl
        have h3 : os.toArray[0]? = some o := by simpa using h1
        rw [h3] at hs
        cases o with
        | none => rw [h2.mp rfl]; rfl
        | some v => exact (hs rfl).elim
    rw [oneTypeOnly'_eq, List.mapM_toArray, map_eq_pure_bind]
    have hT : ∀ v ∈ vs, Looks M s.heap (typeOf v) (.type "tuple") := fun v hv => by
      obtain ⟨d, hd, as, r⟩ := e.left v hv
      obtain ⟨xs, rfl⟩ := ht d hd
      exact looks_reads r
    refine wpAny_bind (wpAny_bind (wpAny_bind (kas_mapM (r := Value.type "tuple") _ (fun v hv Q' hq => (hT v hv).here hq) (wpAny_pure ?_))))
    cases vs with
    | nil =>
      cases e
      cases hm
    | cons v vs =>
      have hall : ((List.map (fun _ => Value.type "tuple") (v :: vs)).toArray.all fun x => x == Value.type "tuple") = true := by
        simp only [List.all_toArray, List.all_map, List.all_eq_true]
        intro _ _
        first | rfl | decide
      have h0 : (List.map (fun _ => Value.type "tuple") (v :: vs)).toArray[0]? = some (Value.type "tuple") := by simp
      rw [h0]
      simp only [hall, if_true]
      exact wpAny_pure (wpAny_pure (ho hfst))
/-- values that read as alike data can be sorted: no None among them -/
theorem sortsAt_any {vs : List Value} {ds : List PyData} (e : EachIs (fun v d => ∃ as, Reads s.heap v d as) vs ds) (hal : AllAlike ds) (hn : ∀ d, d ∈ ds → d ≠ .none) (hu : ∀ d, d ∈ ds → A.units + d.depth < cLine) : SortsAt prog w A s (dataKind s.heap ds) vs := by
  by_cases hm : PyData.tuple [] ∈ ds
  · have ht : ∀ d, d ∈ ds → ∃ xs, d = .tuple xs := fun d hd => by
      have := hal _ hm _ hd
      cases d with
      | tuple xs => exact ⟨xs, rfl⟩
      | _ => simp [alike] at this
    have room : ∀ {d d' : PyData}, d ∈ ds → A.units + min d.depth d'.depth < cLine := fun {d d'} hd => Nat.lt_of_le_of_lt (Nat.add_le_add_left (Nat.min_le_left _ _) _) (hu d hd)
    have keys : ∀ v, v ∈ vs → ∃ a, (dataKind s.heap ds).keyOf v = some a := fun v hv => by
      obtain ⟨d, hd, as, r⟩ := e.left v hv
      exact ⟨_, dataKind_some hal hd r⟩
    have g : H.LtAt prog w A s (dataKind s.heap ds) general' := by
      intro E x y a b Q ha hb hq
      obtain ⟨d, as, hd, ra, rfl⟩ := dataKind_inv ha
      obtain ⟨d', as', hd', rb, rfl⟩ := dataKind_inv hb
      show wpAny (model prog w) A (oneLt' false x y) Q E s
      exact oneLt_alike (fun z => nomatch z) ra rb (hal d hd d' hd') (hn d hd) (room hd) hq
    have o : H.LtAt prog w A s (dataKind s.heap ds) oneType' := by
      intro E x y a b Q ha hb hq
      obtain ⟨d, as, hd, ra, rfl⟩ := dataKind_inv ha
      obtain ⟨d', as', hd', rb, rfl⟩ := dataKind_inv hb
      obtain ⟨xs, rfl⟩ := ht d hd
      obtain ⟨ys, rfl⟩ := ht d' hd'
      rw [keyLt'_oneType]
      exact oneLt_tups ra rb (by simpa [alike] using hal _ hd _ hd') (room hd) hq
    by_cases h0 : ds[0]? = some (.tuple [])
    · exact ⟨keys, oneType', o, fun _ E Q hq => kind_mixed e ht hm (fun z => (z h0).elim) fun _ => hq⟩
    · exact ⟨keys, general', g, fun _ E Q hq => kind_mixed e ht hm (fun _ => hq) fun z => (h0 z).elim⟩
  · refine SortsAt.data e hal ?_ hu
    by_cases ht : ∃ d, d ∈ ds ∧ ∃ xs, d = .tuple xs
    · obtain ⟨d0, hd0, xs0, e0⟩ := ht
      refine .inl fun d hd => ?_
      have := hal _ hd0 _ hd
      subst e0
      cases d with
      | tuple ys =>
        cases ys with
        | nil => exact (hm hd).elim
        | cons y r => exact ⟨y, r, rfl⟩
      | _ => simp [alike] at this
    · exact .inr fun d hd => ⟨hn d hd, fun xs ex => ht ⟨d, hd, xs, ex⟩⟩
end
/-! ### sorted(xs) -/
def okNone (d : D) : Bool := match d with
  | .none => false
  | _ => true
def sortOk (ds : List D) : Bool := ds.all (fun a => ds.all fun b => alike a b) && ds.all (fun d => okNone d && decide (d.depth ≤ 60)) && decide (ds.length ≤ sizeLine)
def sorD (ds : List D) : List D := ds.mergeSort (dataLe false id)
def sortD : List D → Option D
  | [.list ds] => if sortOk ds then some (.list (sorD ds)) else none
  | _ => none
section
variable {X : Cx}
theorem RpA.each {B : Hp} {pins : List (Addr × Obj)} {σ : L2.St} {H : Hp} {s : Shared} (I : Inv X pins σ H s) (sb : Same B H) : ∀ {vs : List V} {ds : List D} {us : List Value}, RpA B vs ds → Vals vs us →
    EachIs (fun u d => (∃ v, RelV v u ∧ Rp B v d) ∧ ∃ as, Reads s.heap u d as) us ds
  | _, _, _, .nil, .nil => .nil
  | _, _, _, .cons a r, .cons b t => .cons ⟨⟨_, b, a⟩, let ⟨as, h, _⟩ := Rp.reads I sb _ a b; ⟨as, h⟩⟩ (RpA.each I sb r t)
theorem each_RpA {B : Hp} : ∀ {us : List Value} {ds : List D}, EachIs (fun u d => ∃ v, RelV v u ∧ Rp B v d) us ds → ∃ vs, Vals vs us ∧ RpA B vs ds
  | _, _, .nil => ⟨[], .nil, .nil⟩
  | _, _, .cons ⟨v, a, b⟩ t => let ⟨vs, h1, h2⟩ := each_RpA t; ⟨v :: vs, .cons a h1, .cons b h2⟩
theorem osort (hu : X.A.units + 64 < cLine) : CallR X (.builtin "sorted") (rcF sortD) := by
  intro pins s σ H xs us Q I r ⟨B, a, d, sb, w, e, q⟩
  unfold sortD at e
  split at e
  · next ds =>
    split at e
    · next ho =>
      cases e
      obtain ⟨v, rfl, w1⟩ := w.one
      obtain ⟨p, ys, rfl, h, rr⟩ := w1.lst sb
      obtain ⟨u, rfl, ru⟩ := vals1 r
      cases ru
      unfold sortOk at ho
      rw [Bool.and_eq_true, Bool.and_eq_true] at ho
      obtain ⟨⟨o1, o2⟩, o3⟩ := ho
      have hal : AllAlike ds := fun x hx y hy => List.all_eq_true.mp (List.all_eq_true.mp o1 x hx) y hy
      have ho2 : ∀ x ∈ ds, okNone x = true ∧ x.depth ≤ 60 := fun x hx => by
        have := List.all_eq_true.mp o2 x hx
        rw [Bool.and_eq_true] at this
        exact ⟨this.1, of_decide_eq_true this.2⟩
      have hl : ds.length ≤ sizeLine := of_decide_eq_true o3
      obtain ⟨its, rv, pl, hz⟩ := I.list (.of h)
      have ev := RpA.each I sb rr rv
      have hlv := ev.length
      have er : EachIs (fun u d => ∃ as, Reads s.heap u d as) its ds := ev.mono fun _ _ z => z.2
      have er' : EachIs (fun v d => ∃ as, Reads (sortingHeap (copyHeap s.heap its) (s.heap.objs.size + 1) its) v d as) its ds := er.mono fun _ _ ⟨as, r⟩ => ⟨as, PyProof.Rows.Reads.keeps (fun _ _ => sorting_copy_old) r⟩
      have S : SortsAt X.prog X.w X.A.in1.in1 { s with heap := sortingHeap (copyHeap s.heap its) (s.heap.objs.size + 1) its } (dataKind (sortingHeap (copyHeap s.heap its) (s.heap.objs.size + 1) its) ds) its :=
        sortsAt_any er' hal (fun x hx => by
          have := (ho2 x hx).1
          intro z; subst z; cases this) fun x hx => by
          have := (ho2 x hx).2
          show X.A.units + 1 + 1 + x.depth < cLine
          omega
      have out := sortVals_data (h' := sortingHeap (copyHeap s.heap its) (s.heap.objs.size + 1) its) (R := fun u d => ∃ v, RelV v u ∧ Rp B v d) (enc := id) false (ev.mono fun _ _ z => z.1) er' (by rw [List.map_id]; exact hal)
      rw [List.map_id] at out
      obtain ⟨zs, rz, az⟩ := each_RpA out
      refine sorted_vals (κ := dataKind (sortingHeap (copyHeap s.heap its) (s.heap.objs.size + 1) its) ds) pl.isList S (by rw [hlv]; exact hl) ?_
      obtain ⟨ep, hat⟩ := sortedAll_at s.heap its (sortVals (dataKind (sortingHeap (copyHeap s.heap its) (s.heap.objs.size + 1) its) ds) false its its).toArray
      have hp : H (s.heap.objs.size + 1) = none := I.hok.fresh (Nat.le_succ _)
      have g : Gr H B (upd H (s.heap.objs.size + 1) (.lst zs)) B := Gr.own sb hp
      refine ⟨.ref (s.heap.objs.size + 1), _, I.laid (t' := s.toks) (o := .lst zs) (fun b o eb => sortedAll_old eb) (Nat.le_succ _) ?_, rfl, q _ _ _ g hp (sub_none sb hp) ⟨_, upd_same, az⟩⟩
      refine ⟨?_, _, ep, rz, hat⟩
      rw [rz.length, sortVals_length false rfl, hlv]
      exact hl
    · cases e
  · cases e
/-! ### xs.count(k) of ints -/
def intsOf : List D → Option (List Int)
  | [] => some []
  | .int b :: r => (intsOf r).map (b :: ·)
  | _ => none
theorem intsOf_some : ∀ {ds : List D} {bs : List Int}, intsOf ds = some bs → ds = bs.map PyData.int
  | [], bs, e => by cases e; rfl
  | .int b :: r, bs, e => by
    unfold intsOf at e
    obtain ⟨cs, h1, h2⟩ := Option.map_eq_some_iff.mp e
    subst h2
    rw [intsOf_some h1]; rfl
  | .none :: _, _, e => by cases e
  | .bool _ :: _, _, e => by cases e
  | .str _ :: _, _, e => by cases e
  | .list _ :: _, _, e => by cases e
  | .tuple _ :: _, _, e => by cases e
  | .dict _ :: _, _, e => by cases e
theorem intsOf_map : ∀ bs : List Int, intsOf (bs.map PyData.int) = some bs
  | [] => rfl
  | b :: r => by
    rw [List.map_cons]
    unfold intsOf
    rw [intsOf_map r]; rfl
def cntD (d k : D) : Option D := match d, k with
  | .list ds, .int i => (intsOf ds).map fun ns => .int (ns.count i : Nat)
  | _, _ => none
variable {os : Option (Addr × Addr)} {f g : Fx D} {o e : Expr} {apos cpos : Pos}
theorem ecnt (ho : PE X o (tW os f)) (ha : PE X e (tS os g))
    (hbase : attributeBase o "count" X.env (eval o X.env) = eval o X.env := by rfl)
    (hfew : ((backTo cpos (starEach [e] X.env)).all (fun x => !x.1) && (backToKw cpos (keywordEach [] X.env)).all (fun x => x.1.isSome)
      && decide ([e].length + ([] : List Keyword).length + (if ([] : List Keyword).isEmpty then 0 else 1) < 30)) = true := by rfl)
    (hline : (apos.endLine == cpos.line) = true := by rfl) (hs : starEach [e] X.env = (false, eval e X.env) :: starEach [] X.env := by rfl) (hplain : (backTo cpos (starEach [] X.env)).any (·.1) = false := by rfl) :
    PE X (.Call (.Attribute o "count" apos) [e] [] cpos) (tS os (f2 cntD f g)) := by
  refine ⟨fun pins s σ H Q I ⟨δ, st, B, F, d, st', R, ea, q⟩ => ?_⟩
  obtain ⟨x, s1, e1, eb⟩ := mb_some ea
  obtain ⟨y, s2, e2, ec⟩ := mb_some eb
  obtain ⟨e3, rfl⟩ := ml_some ec
  have arg : PA X [e] (tCons (tS os g) tNil) := pa_cons ha pa_nil hs
  cases y with
  | int k =>
    cases x with
    | list ds =>
      obtain ⟨ns, n1, rfl⟩ := Option.map_eq_some_iff.mp (show (intsOf ds).map (fun ns => PyData.int (ns.count k : Nat)) = some d from e3)
      obtain rfl := intsOf_some n1
      refine (pe_bm PySem.F.plainAttrs_list PySem.F.slot_list_count PySem.F.type_list_count mt_lcount ho arg hbase hfew hline hs hplain).run pins s σ H Q I ⟨δ, st, B, F, _, _, R, e1, fun v H1 B1 l1 R1 w1 => ?_⟩
      obtain ⟨p, ys, rfl, h, rr⟩ := (w1.wk R1).lst R1.sub
      refine ⟨.inl ⟨rfl, _, .of h⟩, δ, s1, B1, F, _, _, R1, e2, fun u H2 B2 l2 R2 r2 => ?_⟩
      cases r2
      obtain ⟨p2, ys2, ep, h2, rr2⟩ := ((w1.mono l2).wk R2).lst R2.sub
      cases ep
      obtain rfl := rr2.ints
      exact ⟨p, ns, k, rfl, rfl, .of h2, q _ H2 B2 (l1.trans l2) R2 (.int _)⟩
    | _ => cases e3
  | _ => cases x <;> cases e3
end
end VL

/-! VL10: repr, dict displays and stores, stars, comprehensions as values. -/
namespace VL
open PySem PySem.Spec PyProof.Rows L2
section
variable {X : Cx} {os : Option (Addr × Addr)} {f g : Fx D} {fr : Fx (List D)} {e : Expr} {es : List Expr} {p pos cpos apos : Pos}
/-! ### repr -/
def repOk (d : D) : Bool := d.showable && decide (d.shown.length ≤ sizeLine) && decide (d.depth ≤ 60) && (!d.hasDict || noList d)
def reprD : List D → Option D
  | [d] => if repOk d then some (.str d.shown) else none
  | _ => none
theorem orepr (hg : X.A.guards = some []) (hu : X.A.units + 64 < cLine) : CallR X (.builtin "repr") (rc reprD) := by
  intro pins s σ H xs us Q I r ⟨B, a, d, sb, w, e, q⟩
  unfold reprD at e
  split at e
  · next x =>
    split at e
    · next ho =>
      cases e
      obtain ⟨v, rfl, w1⟩ := w.one
      obtain ⟨u, rfl, ru⟩ := vals1 r
      unfold repOk at ho
      rw [Bool.and_eq_true, Bool.and_eq_true, Bool.and_eq_true] at ho
      obtain ⟨⟨⟨o1, o2⟩, o3⟩, o4⟩ := ho
      have o2' := of_decide_eq_true o2
      have o3' := of_decide_eq_true o3
      have fin : ∀ {h' : Heap} {t : Tok} {tk : Nat}, (∀ b o, s.heap.get? b = some o → h'.get? b = some o) → EP X pins σ Q (.str x.shown t) { s with heap := h', toks := tk } := fun {h' t tk} k =>
        ⟨.str x.shown, H, I.kept k, ⟨t, rfl⟩, q _ H B (.refl sb) (.str _)⟩
      have fin0 : ∀ {t : Tok} {tk : Nat}, EP X pins σ Q (.str x.shown t) { s with toks := tk } := fun {t tk} => fin (h' := s.heap) fun _ _ z => z
      have big : ∀ {p : Addr}, v = .ref p → wpAny (model X.prog X.w) X.A (call (.builtin "repr") [u]) (EP X pins σ Q) X.xe s := fun {p} ev => by
        subst ev
        cases ru
        obtain ⟨as, r1, r2⟩ := Wk.reads I sb w1 rfl
        refine PySem.repr_of_reads' r1 o1 (fun hd => r2 ?_) hg (by omega) (fun _ _ z => z) (fun h' t tk k => fin k) o2'
        rw [hd] at o4
        simpa using o4
      cases x with
      | none =>
        obtain rfl := w1.non
        obtain rfl : u = .none := ru
        exact PySem.P.repr_of_none fin0
      | bool b =>
        obtain rfl := w1.bl
        obtain rfl : u = .bool b := ru
        exact PySem.P.repr_of_bool fin0
      | int i =>
        obtain rfl := w1.int
        obtain ⟨t, rfl⟩ := ru
        exact PySem.P.repr_of_int (by simpa [PyData.showable] using o1) fin0
      | str z =>
        obtain rfl := w1.str
        obtain ⟨t, rfl⟩ := ru
        exact PySem.P.repr_of_str fin0 o2'
      | list ds =>
        obtain ⟨p, _, ev, _⟩ := w1.lst sb
        exact big ev
      | tuple ds =>
        obtain ⟨p, _, ev, _⟩ := w1.tup sb
        exact big ev
      | dict es =>
        obtain ⟨p, ev, _⟩ := w1.dic sb
        exact big ev
    · cases e
  · cases e
/-! ### dicts -/
def putE (k : Key) (d : D) (es : List (D × D)) : List (D × D) :=
  if (es.any fun e => decide (keyOf e.1 = some k)) = true then es.map (fun e => if keyOf e.1 = some k then (e.1, d) else e) else es ++ [(kD k, d)]
theorem RpE.any {B : Hp} {k : Key} : ∀ {kvs : List (Key × V)} {es : List (D × D)}, RpE B kvs es → (kvs.any fun kv => decide (kv.1 = k)) = (es.any fun e => decide (keyOf e.1 = some k))
  | _, _, .nil => rfl
  | _, _, .cons (k := k0) a r => by
    rw [List.any_cons, List.any_cons, RpE.any r]
    show (decide (k0 = k) || _) = (decide (keyOf (kD k0) = some k) || _)
    rw [keyOf_kD]
    simp
theorem RpE.maps {B : Hp} {k : Key} {v : V} {d : D} (rv : Rp B v d) : ∀ {kvs : List (Key × V)} {es : List (D × D)}, RpE B kvs es → RpE B (kvs.map fun kv => if kv.1 = k then (kv.1, v) else kv) (es.map fun e => if keyOf e.1 = some k then (e.1, d) else e)
  | _, _, .nil => .nil
  | _, _, .cons (k := k0) (v := v0) (d := d0) a r => by
    rw [List.map_cons, List.map_cons]
    show RpE B ((if k0 = k then (k0, v) else (k0, v0)) :: _) ((if keyOf (kD k0) = some k then (kD k0, d) else (kD k0, d0)) :: _)
    rw [keyOf_kD]
    by_cases e : k0 = k
    · rw [if_pos e, if_pos (by rw [e])]
      exact .cons rv (RpE.maps rv r)
    · rw [if_neg e, if_neg (fun z => e (Option.some.inj z))]
      exact .cons a (RpE.maps rv r)
theorem RpE.snoc {B : Hp} {k : Key} {v : V} {d : D} (rv : Rp B v d) : ∀ {kvs : List (Key × V)} {es : List (D × D)}, RpE B kvs es → RpE B (kvs ++ [(k, v)]) (es ++ [(kD k, d)])
  | _, _, .nil => .cons rv .nil
  | _, _, .cons a r => .cons a (RpE.snoc rv r)
theorem RpE.put {B : Hp} {k : Key} {v : V} {d : D} (rv : Rp B v d) {kvs : List (Key × V)} {es : List (D × D)} (r : RpE B kvs es) : RpE B (putK kvs k v) (putE k d es) := by
  unfold putK putE
  rw [r.any]
  split
  · exact r.maps rv
  · exact r.snoc rv
theorem RpE.length {B : Hp} : ∀ {kvs : List (Key × V)} {es : List (D × D)}, RpE B kvs es → kvs.length = es.length
  | _, _, .nil => rfl
  | _, _, .cons _ r => by rw [List.length_cons, List.length_cons, RpE.length r]
/-- the dict's keys are ints or texts -/
def kHead : List (D × D) → Bool
  | [] => true
  | (k, _) :: _ => (keyOf k).isSome
theorem own_dK {B H : Hp} {p : Addr} {es : List (D × D)} (o : OwnRp B H p (.dict es)) (h : kHead es = true) : ∃ kvs, H p = some (.dK kvs) ∧ RpE B kvs es := by
  rcases o with o | ⟨kvs, h1, r, hne⟩
  · exact o
  · cases r with
    | nil => exact (hne rfl).elim
    | cons a r => cases h
def putT (k : List Key) (d : D) (es : List (D × D)) : List (D × D) :=
  if (es.any fun e => decide (keysT e.1 = some k)) = true then es.map (fun e => if keysT e.1 = some k then (e.1, d) else e) else es ++ [(.tuple (k.map kD), d)]
theorem keysT_kD (k : List Key) : keysT (.tuple (k.map kD)) = some k := keysOf_kD k
theorem keysT_some {d : D} {k : List Key} (h : keysT d = some k) : d = .tuple (k.map kD) := by
  cases d with
  | tuple ds => rw [keysOf_some (show keysOf ds = some k from h)]
  | _ => cases h
theorem RpT.any {B : Hp} {k : List Key} : ∀ {kvs : List (List Key × V)} {es : List (D × D)}, RpT B kvs es → (kvs.any fun kv => decide (kv.1 = k)) = (es.any fun e => decide (keysT e.1 = some k))
  | _, _, .nil => rfl
  | _, _, .cons (k := k0) a r => by
    rw [List.any_cons, List.any_cons, RpT.any r]
    show (decide (k0 = k) || _) = (decide (keysT (.tuple (k0.map kD)) = some k) || _)
    rw [keysT_kD]
    simp
theorem RpT.maps {B : Hp} {k : List Key} {v : V} {d : D} (rv : Rp B v d) : ∀ {kvs : List (List Key × V)} {es : List (D × D)}, RpT B kvs es → RpT B (kvs.map fun kv => if kv.1 = k then (kv.1, v) else kv) (es.map fun e => if keysT e.1 = some k then (e.1, d) else e)
  | _, _, .nil => .nil
  | _, _, .cons (k := k0) (v := v0) (d := d0) a r => by
    rw [List.map_cons, List.map_cons]
    show RpT B ((if k0 = k then (k0, v) else (k0, v0)) :: _) ((if keysT (.tuple (k0.map kD)) = some k then (.tuple (k0.map kD), d) else (.tuple (k0.map kD), d0)) :: _)
    rw [keysT_kD]
    by_cases e : k0 = k
    · rw [if_pos e, if_pos (by rw [e])]
      exact .cons rv (RpT.maps rv r)
    · rw [if_neg e, if_neg (fun z => e (Option.some.inj z))]
      exact .cons a (RpT.maps rv r)
theorem RpT.snoc {B : Hp} {k : List Key} {v : V} {d : D} (rv : Rp B v d) : ∀ {kvs : List (List Key × V)} {es : List (D × D)}, RpT B kvs es → RpT B (kvs ++ [(k, v)]) (es ++ [(.tuple (k.map kD), d)])
  | _, _, .nil => .cons rv .nil
  | _, _, .cons a r => .cons a (RpT.snoc rv r)
theorem RpT.put {B : Hp} {k : List Key} {v : V} {d : D} (rv : Rp B v d) {kvs : List (List Key × V)} {es : List (D × D)} (r : RpT B kvs es) : RpT B (putK kvs k v) (putT k d es) := by
  unfold putK putT
  rw [r.any]
  split
  · exact r.maps rv
  · exact r.snoc rv
theorem RpT.length {B : Hp} : ∀ {kvs : List (List Key × V)} {es : List (D × D)}, RpT B kvs es → kvs.length = es.length
  | _, _, .nil => rfl
  | _, _, .cons _ r => by rw [List.length_cons, List.length_cons, RpT.length r]
theorem putT_ne (k : List Key) (d : D) {es : List (D × D)} (h : es ≠ []) : putT k d es ≠ [] := by
  unfold putT
  split
  · intro z; exact h (List.map_eq_nil_iff.mp z)
  · simp
/-- the dict's keys are tuples -/
def tHead : List (D × D) → Bool
  | [] => false
  | (k, _) :: _ => (keysT k).isSome
theorem own_dT {B H : Hp} {p : Addr} {es : List (D × D)} (o : OwnRp B H p (.dict es)) (h : tHead es = true) : ∃ kvs, H p = some (.dT kvs) ∧ RpT B kvs es ∧ es ≠ [] := by
  rcases o with ⟨kvs, h1, r⟩ | o
  · cases r with
    | nil => cases h
    | @cons k0 v d kvs es a r =>
      have h' : (keysT (kD k0)).isSome = true := h
      cases k0 with
      | inl i => cases h'
      | inr x => cases h'
  · exact o
def putD (i : Nat) (k d : D) (δ : List Slot) : Option (List Slot) := match δ[i]? with
  | some (.own (.dict es)) => if kHead es = true ∧ es.length < sizeLine then (keyOf k).map fun kk => δ.set i (.own (.dict (putE kk d es)))
    else if tHead es = true ∧ es.length < sizeLine then (keysT k).map fun kk => δ.set i (.own (.dict (putT kk d es))) else none
  | _ => none
/-- d[k] = e, d at slot i -/
def sPut (i : Nat) (f g : Fx D) : Fx Flow := fun δ => mb (f δ) fun d => mb (g δ) fun k => mb (ml (putD i k d δ)) fun δ' => mp (.nx δ')
theorem sput {i : Nat} {o k v : Expr} {pos' : Pos} (hu : X.A.units + 1 < cLine) (ho : PE X o (tVar i)) (hk : PE X k (tS os g)) (hv : PE X v (tS os f)) (hs : swapsWith v (some (.Subscript o k pos')) pos.line X.env = pure false := by rfl) :
    PS X (.Assign [.Subscript o k pos'] v pos) (tB os (sPut i f g)) := (ps_dput hu ho hk hv hs).wk fun E σ H ⟨δ, st, B, F, fl, st', R, ea, x⟩ => by
  obtain ⟨d, s1, e1, eb⟩ := mb_some ea
  obtain ⟨kd, s2, e2, ec⟩ := mb_some eb
  obtain ⟨δ', s3, e3, ed⟩ := mb_some ec
  obtain ⟨e4, rfl⟩ := ml_some e3
  obtain ⟨rfl, rfl⟩ := mp_some ed
  refine ⟨δ, st, B, F, d, s1, R, e1, fun v H1 B1 l1 R1 r1 => ?_⟩
  unfold putD at e4
  split at e4
  · next es hsl =>
    split at e4
    · next hc =>
      obtain ⟨kk, k1, rfl⟩ := Option.map_eq_some_iff.mp e4
      obtain rfl := keyOf_some k1
      obtain ⟨p, ep, _⟩ := R1.own i _ hsl
      refine ⟨.ref p, ep, δ, s1, B1, F, _, _, R1, e2, fun y H2 B2 l2 R2 r2 => ?_⟩
      obtain ⟨p', ep', o2, _⟩ := R2.own i _ hsl
      have ee : p' = p := by rw [ep] at ep'; cases ep'; rfl
      subst ee
      obtain ⟨kvs, hd, re⟩ := own_dK o2 hc.1
      have ey : y = kV kk := by cases kk <;> cases r2 <;> rfl
      subst ey
      refine ⟨p', _, rfl, DPut.k hd (by rw [re.length]; exact hc.2), x σ _ _ (l1.trans l2) (R2.write hsl ep (.inl ⟨_, upd_same, re.put (r1.mono l2)⟩))⟩
    · split at e4
      · next hc =>
        obtain ⟨kk, k1, rfl⟩ := Option.map_eq_some_iff.mp e4
        obtain rfl := keysT_some k1
        obtain ⟨p, ep, _⟩ := R1.own i _ hsl
        refine ⟨.ref p, ep, δ, s1, B1, F, _, _, R1, e2, fun y H2 B2 l2 R2 r2 => ?_⟩
        obtain ⟨p', ep', o2, _⟩ := R2.own i _ hsl
        have ee : p' = p := by rw [ep] at ep'; cases ep'; rfl
        subst ee
        obtain ⟨kvs, hd, re, hne⟩ := own_dT o2 hc.1
        cases r2 with
        | @tup b xs _ hb rr =>
          obtain rfl := rr.tupK
          refine ⟨p', _, rfl, DPut.t hd (R2.sub _ _ hb) (by rw [re.length]; exact hc.2), x σ _ _ (l1.trans l2) (R2.write hsl ep (.inr ⟨_, upd_same, re.put (r1.mono l2), putT_ne kk d hne⟩))⟩
      · cases e4
  · cases e4
/-- {k: v} -/
def fDi1 (f g : Fx D) : Fx D := fun δ => mb (f δ) fun k => mb (g δ) fun d => ml ((keyOf k).map fun kk => .dict [(kD kk, d)])
theorem edi1 {k v : Expr} (hk : PE X k (tS os f)) (hv : PE X v (tS os g)) : PE X (.Dict [some k] [v] pos) (tF os (fDi1 f g)) :=
  (pe_disp (pps_cons hk hv pps_nil) rfl rfl (by simp) (by show 1 ≤ 15; decide)).wk fun σ H Q ⟨δ, st, B, F, d0, st', R, ea, q⟩ => by
    obtain ⟨kd, s1, e1, eb⟩ := mb_some ea
    obtain ⟨d, s2, e2, ec⟩ := mb_some eb
    obtain ⟨e3, rfl⟩ := ml_some ec
    obtain ⟨kk, k1, rfl⟩ := Option.map_eq_some_iff.mp e3
    obtain rfl := keyOf_some k1
    intro p hp
    have n := R.new hp
    have R0 := (R.grow (Gr.own (o := .dK []) R.sub hp)).aside ⟨n.b, n.f, n.o, n.s⟩ upd_same
    refine ⟨δ, st, B, _, _, s1, R0, e1, fun y H1 B1 l1 R1 r1 => ⟨δ, s1, B1, _, d, _, R1, e2, fun v H2 B2 l2 R2 r2 => ?_⟩⟩
    obtain ⟨Rb, nb, hd⟩ := R2.back n.f
    have ey : y = kV kk := by cases kk <;> cases r1 <;> rfl
    subst ey
    refine ⟨hd, [(kk, v)], rfl, (by show 1 ≤ 15; decide), ?_⟩
    obtain ⟨Rc, nc, hc⟩ := (R2.rewrite (o' := .dK (mergeK [] [(kk, v)])) n.f).back n.f
    exact q p _ B2 (l1.trans l2) Rc (.inl ⟨_, hc, .cons r2 .nil⟩) nc
/-- {} -/
theorem edi0 : PE X (.Dict [] [] pos) (tF os fun _ => mp (.dict [])) := pe_dnewK.wk fun σ H Q ⟨δ, st, B, F, d, st', R, e, q⟩ => by
  obtain ⟨rfl, rfl⟩ := mp_some e
  intro p hp
  have n := R.new hp
  exact q p _ B (.refl _) (R.grow (Gr.own R.sub hp)) (.inl ⟨[], upd_same, .nil⟩) n
/-! ### (*xs, ..) -/
def unsD : D → Option (List D)
  | .list ds => some ds
  | .tuple ds => some ds
  | _ => none
def fStar (f : Fx D) (r : Fx (List D)) : Fx (List D) := fun δ => mb (f δ) fun x => mb (ml (unsD x)) fun xs => mb (r δ) fun ys => mp (xs ++ ys)
theorem astar (he : PE X e (tS os f)) (hr : PA X es (tA os fr)) (hs : starEach (.Starred e p :: es) X.env = (true, eval e X.env) :: starEach es X.env := by rfl) : PA X (.Starred e p :: es) (tA os (fStar f fr)) := (StX.pa_star he hr hs).wk fun σ H Q ⟨δ, st, B, F, d, st', R, ea, q⟩ => by
  obtain ⟨x, s1, e1, eb⟩ := mb_some ea
  obtain ⟨xs, s2, e2, ec⟩ := mb_some eb
  obtain ⟨e3, rfl⟩ := ml_some e2
  obtain ⟨ys, s3, e4, ed⟩ := mb_some ec
  obtain ⟨rfl, rfl⟩ := mp_some ed
  refine ⟨δ, st, B, F, x, _, R, e1, fun v H1 B1 l1 R1 r1 => ?_⟩
  cases r1 with
  | @lst a vs ds ea ra =>
    cases e3
    exact ⟨a, vs, rfl, .inr (.of (R1.sub _ _ ea)), δ, _, B1, F, ys, _, R1, e4, fun us H2 B2 l2 R2 r2 => q _ H2 B2 (l1.trans l2) R2 ((ra.mono l2).append r2)⟩
  | @tup a vs ds ea ra =>
    cases e3
    exact ⟨a, vs, rfl, .inl (ea.mono R1.sub).sq, δ, _, B1, F, ys, _, R1, e4, fun us H2 B2 l2 R2 r2 => q _ H2 B2 (l1.trans l2) R2 ((ra.mono l2).append r2)⟩
  | _ => cases e3
/-! ### comprehensions as values -/
variable {fi : Fx (List D)} {t : Fx Bool} {tg iter elt : Expr} {ifs : List Expr} {scope : Scope} {own : List (Str × Nat)} {is : List Nat} {gt : D → List Slot → Option (List Slot)}
theorem rdFrz {f : Fx D} {σ : L2.St} {H : Hp} {Q : VK} (q : tS os f σ H Q) : tF os f σ H Q := by
  obtain ⟨δ, st, B, F, d, st', R, ef, q⟩ := q
  exact ⟨δ, st, B, F, d, st', R, ef, fun p H' B' le R' o n => by
    obtain ⟨B2, l2, R2, r2⟩ := R'.freeze n o
    exact q _ _ B2 (le.trans l2) R2 r2⟩
theorem elc [Gok is gt] (hc : X.calm = true) (hN : X.N.Nodup) (hi : PI X tg iter (tI os fi)) (ok : BlkOk X.N X.env.scope scope own) (his : ∀ i ∈ is, i ∈ own.map (·.2))
    (hg : ∀ (s : Shared) (H : Hp) (C : Addr) (cl : List (Str × Addr)) (fp : List Addr), PG (X.blk s H scope (compEnvC scope cl C X.env) fp) tg (tG os is gt)) (ht : ∀ (s : Shared) (H : Hp) (C : Addr) (cl : List (Str × Addr)) (fp : List Addr), PTs (X.blk s H scope (compEnvC scope cl C X.env) fp) ifs (tT os t))
    (he : ∀ (s : Shared) (H : Hp) (C : Addr) (cl : List (Str × Addr)) (fp : List Addr), PE (X.blk s H scope (compEnvC scope cl C X.env) fp) elt (tS os f)) (hs : ∀ x, foldedSetIterable iter X.env x = pure x := by intro _; rfl) :
    PE X (.ListComp elt [⟨tg, iter, ifs, 0⟩] scope pos) (tF os (lcF fi gt t f (own.map (·.2)))) := (pe_lc hc hN hi ok hg ht he hs).wk fun σ H Q q => rdLc his q
end
end VL

/-! VL11d: dict(pairs) whose keys are ints or tuples of ints; the sorted list of a dict's keys. -/
namespace VL
open PySem PySem.Spec PyProof.Rows L2

/-! ### each once, at its first place -/
def ddK {α β : Type} [DecidableEq β] (f : α → β) : List α → List α
  | [] => []
  | a :: r => a :: (ddK f r).filter fun x => !decide (f x = f a)
section
variable {α β γ ε : Type} [DecidableEq β] [DecidableEq ε]
theorem ddK_cons (f : α → β) (a : α) (r : List α) : ddK f (a :: r) = a :: (ddK f r).filter fun x => !decide (f x = f a) := rfl
theorem ddK_mem {f : α → β} : ∀ {l : List α} {x : α}, x ∈ ddK f l → x ∈ l
  | [], x, h => h
  | a :: r, x, h => by
    unfold ddK at h
    rcases List.mem_cons.mp h with h | h
    · exact h ▸ .head _
    · exact .tail _ (ddK_mem (List.mem_filter.mp h).1)
theorem ddK_length {f : α → β} : ∀ l : List α, (ddK f l).length ≤ l.length
  | [] => Nat.le_refl _
  | a :: r => by
    unfold ddK
    have h1 := List.length_filter_le (fun x => !decide (f x = f a)) (ddK f r)
    have h2 := ddK_length (f := f) r
    simp only [List.length_cons]
    omega
theorem ddK_map {f : α → β} {g : γ → α} : ∀ l : List γ, ddK f (l.map g) = (ddK (fun x => f (g x)) l).map g
  | [] => rfl
  | a :: r => by
    rw [List.map_cons]
    unfold ddK
    rw [ddK_map r, List.map_cons, List.filter_map]
    rfl
theorem ddK_congr {f : α → β} {g : α → ε} (h : ∀ x y, f x = f y ↔ g x = g y) : ∀ l : List α, ddK f l = ddK g l
  | [] => rfl
  | a :: r => by
    unfold ddK
    rw [ddK_congr h r]
    congr 1
    apply List.filter_congr
    intro x _
    rw [decide_eq_decide.mpr (h x a)]
theorem merge_step {f : α → β} {S : List β} {r : List α} {a : α} :
    (ddK f (a :: r)).filter (fun x => !decide (f x ∈ S)) = if f a ∈ S then (ddK f r).filter (fun x => !decide (f x ∈ S)) else a :: (ddK f r).filter (fun x => !decide (f x ∈ S ++ [f a])) := by
  rw [ddK_cons]
  by_cases h : f a ∈ S
  · rw [if_pos h, List.filter_cons_of_neg (by rw [decide_eq_true h]; decide), List.filter_filter]
    apply List.filter_congr
    intro x _
    by_cases hx : f x ∈ S
    · rw [decide_eq_true hx]; rfl
    · have : f x ≠ f a := fun z => hx (z ▸ h)
      rw [decide_eq_false hx, decide_eq_false this]; rfl
  · rw [if_neg h, List.filter_cons_of_pos (by rw [decide_eq_false h]; rfl), List.filter_filter]
    congr 1
    apply List.filter_congr
    intro x _
    by_cases hx : f x ∈ S
    · rw [decide_eq_true hx, decide_eq_true (List.mem_append_left _ hx)]; rfl
    · by_cases ha : f x = f a
      · rw [decide_eq_false hx, decide_eq_true ha, decide_eq_true (by rw [ha]; simp)]; rfl
      · rw [decide_eq_false hx, decide_eq_false ha, decide_eq_false (by
          intro z
          rcases List.mem_append.mp z with z | z
          · exact hx z
          · exact ha (List.mem_singleton.mp z))]; rfl
end
section
variable {K : Type} [DecidableEq K]
theorem stored_keys (acc : List (K × Value)) (k : K) (v : Value) : (stored acc k v).map (·.1) = if k ∈ acc.map (·.1) then acc.map (·.1) else acc.map (·.1) ++ [k] := by
  unfold stored
  by_cases h : k ∈ acc.map (·.1)
  · rw [if_pos h, if_pos]
    · rw [List.map_map]
      apply List.map_congr_left
      intro x _
      show (if x.1 = k then (x.1, v) else x).1 = x.1
      split <;> rfl
    · obtain ⟨x, hx, e⟩ := List.mem_map.mp h
      exact List.any_eq_true.mpr ⟨x, hx, decide_eq_true e⟩
  · rw [if_neg h, if_neg, List.map_append]
    · rfl
    · intro z
      obtain ⟨x, hx, e⟩ := List.any_eq_true.mp z
      exact h (List.mem_map.mpr ⟨x, hx, of_decide_eq_true e⟩)
theorem merged_keys : ∀ (rest acc : List (K × Value)), (merged acc rest).map (·.1) = acc.map (·.1) ++ (ddK (fun k : K => k) (rest.map (·.1))).filter fun x => !decide (x ∈ acc.map (·.1))
  | [], acc => by
    show acc.map (·.1) = _ ++ []
    rw [List.append_nil]
  | q :: r, acc => by
    have e : merged acc (q :: r) = merged (stored acc q.1 q.2) r := rfl
    rw [e, merged_keys r, List.map_cons, merge_step, stored_keys]
    by_cases h : q.1 ∈ acc.map (·.1)
    · rw [if_pos h, if_pos h]
    · rw [if_neg h, if_neg h, List.append_assoc]
      rfl
def mergedH (acc rest : List (K × Addr × Value)) : List (K × Addr × Value) := rest.foldl (fun acc q => storedH acc q.1 q.2.1 q.2.2) acc
def kaOf (x : K × Addr × Value) : K × Addr := (x.1, x.2.1)
theorem storedH_keys (acc : List (K × Addr × Value)) (k : K) (a : Addr) (v : Value) : (storedH acc k a v).map kaOf = if k ∈ (acc.map kaOf).map (·.1) then acc.map kaOf else acc.map kaOf ++ [(k, a)] := by
  unfold storedH
  have hm : k ∈ (acc.map kaOf).map (·.1) ↔ ∃ x ∈ acc, x.1 = k := by
    rw [List.map_map]
    exact List.mem_map
  by_cases h : ∃ x ∈ acc, x.1 = k
  · rw [if_pos (hm.mpr h), if_pos]
    · rw [List.map_map]
      apply List.map_congr_left
      intro x _
      show kaOf (if x.1 = k then (x.1, x.2.1, v) else x) = kaOf x
      split <;> rfl
    · obtain ⟨x, hx, e⟩ := h
      unfold atKey
      rw [Option.isSome_map, List.find?_isSome]
      exact ⟨x, hx, decide_eq_true e⟩
  · rw [if_neg fun z => h (hm.mp z), if_neg, List.map_append]
    · rfl
    · unfold atKey
      rw [Option.isSome_map, List.find?_isSome]
      rintro ⟨x, hx, e⟩
      exact h ⟨x, hx, of_decide_eq_true e⟩
theorem storedH_addr {acc : List (K × Addr × Value)} {k : K} {a : Addr} {v : Value} {x : K × Addr × Value} (h : x ∈ storedH acc k a v) : x.2.1 = a ∨ ∃ y ∈ acc, y.2.1 = x.2.1 := by
  unfold storedH at h
  split at h
  · obtain ⟨y, hy, e⟩ := List.mem_map.mp h
    refine .inr ⟨y, hy, ?_⟩
    subst e
    unfold putAt
    split <;> rfl
  · rcases List.mem_append.mp h with h | h
    · exact .inr ⟨x, h, rfl⟩
    · rw [List.mem_singleton.mp h]; exact .inl rfl
theorem storedH_length (acc : List (K × Addr × Value)) (k : K) (a : Addr) (v : Value) : (storedH acc k a v).length ≤ acc.length + 1 := by
  unfold storedH
  split
  · rw [List.length_map]; omega
  · rw [List.length_append]; exact Nat.le_refl _
theorem mergedH_keys : ∀ (rest acc : List (K × Addr × Value)), (mergedH acc rest).map kaOf = acc.map kaOf ++ (ddK (fun x : K × Addr => x.1) (rest.map kaOf)).filter fun x => !decide (x.1 ∈ (acc.map kaOf).map (·.1))
  | [], acc => by
    show acc.map kaOf = _ ++ []
    rw [List.append_nil]
  | q :: r, acc => by
    have e : mergedH acc (q :: r) = mergedH (storedH acc q.1 q.2.1 q.2.2) r := rfl
    rw [e, mergedH_keys r, List.map_cons, merge_step, storedH_keys]
    by_cases h : q.1 ∈ (acc.map kaOf).map (·.1)
    · have h' : (kaOf q).1 ∈ (acc.map kaOf).map (·.1) := h
      rw [if_pos h, if_pos h']
    · have h' : ¬ (kaOf q).1 ∈ (acc.map kaOf).map (·.1) := h
      rw [if_neg h, if_neg h', List.append_assoc, List.map_append]
      rfl
end

/-! ### dict(l) of pairs whose keys are tuples -/
section
variable {prog : Program} {w : World} {A : Around} {E : Value → Shared → Prop}
abbrev TK (prog : Program) (w : World) := tupleKind (mixKind prog w)
theorem tk_ext {h h' : Heap} {ks : List Key} {a : Addr} (x : (TK prog w).is h ks a) (hs : ∀ o, h.get? a = some o → h'.get? a = some o) : (TK prog w).is h' ks a := by
  obtain ⟨o, its, n, h1, h2, h3, h4⟩ := (show IsTupleKey (mixKind prog w) h ks a from x)
  exact (show IsTupleKey (mixKind prog w) h' ks a from ⟨o, its, n, hs _ h1, h2, h3, h4⟩)
theorem tk_lt {h : Heap} {ks : List Key} {a : Addr} (x : (TK prog w).is h ks a) : a < h.objs.size := by
  obtain ⟨o, its, n, h1, h2, h3, h4⟩ := (show IsTupleKey (mixKind prog w) h ks a from x)
  exact Heap.lt_size h1
theorem dh_ext {h h' : Heap} {S I : Addr} {acc : List (List Key × Addr × Value)} (x : h.DictOfH (TK prog w) S acc) (hs : ∀ b o, b ≠ I → h.get? b = some o → h'.get? b = some o) (hS : S ≠ I) (ha : ∀ x ∈ acc, x.2.1 ≠ I) : h'.DictOfH (TK prog w) S acc := by
  obtain ⟨o, es, ep, h1, h2, h3, h4, h5, h6⟩ := x
  exact ⟨o, es, ep, hs _ _ hS h1, h2, h3, h4, fun x hx => tk_ext (h5 x hx) fun o' e => hs _ _ (ha x hx) e, h6⟩
theorem upd_loopT {R : Result → Shared → Prop} {S I l : Addr} {items : Array Value} {res : Value} (hu : A.units + 1 < cLine) (hh : A.handled = none) (hlI : l ≠ I) (hSI : S ≠ I) (hSl : S ≠ l) :
    ∀ (rest : List (List Key × Addr × Value)) (i : Nat) (acc : List (List Key × Addr × Value)) (ix : Int) (t : Tok) (s : Shared), items.size = i + rest.length → acc.length + rest.length ≤ sizeLine →
      (∀ (j : Nat) (q : List Key × Addr × Value), rest[j]? = some q → ∃ b : Addr, items[i + j]? = some (.ref b) ∧ b ≠ S ∧ b ≠ I ∧ IsTup s.heap b #[.ref q.2.1, q.2.2] ∧ q.2.1 ≠ S ∧ q.2.1 ≠ I ∧ (TK prog w).is s.heap q.1 q.2.1) →
      s.heap.IsListIter I l i → s.heap.IsList l items → (∀ x ∈ acc, x.2.1 ≠ I) → s.heap.DictOfH (TK prog w) S acc →
      (∀ h' tk, h'.DictOfH (TK prog w) S (mergedH acc rest) → (∀ b o, b ≠ S → b ≠ I → s.heap.get? b = some o → h'.get? b = some o) → R (.ok (.ret res)) { s with heap := h', toks := tk }) →
      codeAny (model prog w) A (.builtin "dict.update.loop" ⟨[.ref S, .ref I, .int ix t, res], []⟩) R s
  | [], i, acc, ix, t, s, hsz, hln, ht, hit, hl, ha, hm, hR => by
    refine codeAny_builtin ud_entry ?_
    rw [Around.under_plainId ud_plain _]
    show wpAny _ A.in1 (pyNext (.ref I) >>= _) _ _ s
    refine wpAny_bind (wpAny_pyNext_list_end (A := A.in1) hh hit hl (by first | exact Array.getElem?_eq_none (Nat.le_of_eq hsz) | (simp at hsz; simp; omega)) fun h' he => ?_)
    show wpAny _ A.in1 (Builtin.Dict.addKeywords S [] >>= _) _ _ _
    refine wpAny_bind (wpAny_pure (wpAny_pure ?_))
    exact hR h' s.toks (dh_ext hm (fun b o hb e => he b o hb e) hSI ha) fun b o _ hb e => he b o hb e
  | q :: rest, i, acc, ix, t, s, hsz, hln, ht, hit, hl, ha, hm, hR => by
    obtain ⟨b, hb, hbS, hbI, htup, hqS, hqI, hk⟩ := ht 0 q rfl
    rw [List.length_cons] at hsz hln
    refine codeAny_builtin ud_entry ?_
    rw [Around.under_plainId ud_plain _]
    show wpAny _ A.in1 (pyNext (.ref I) >>= _) _ _ s
    refine wpAny_bind (wpAny_pyNext_list_item (x := .ref b) hit hl (by simpa using hb) fun h1 hit1 hs1 => ?_)
    have ht1 : IsTup h1 b #[.ref q.2.1, q.2.2] := htup.extBut hs1.extBut hbI
    have hl1 : h1.IsList l items := hl.extBut hs1.extBut hlI
    have hm1 : h1.DictOfH (TK prog w) S acc := dh_ext hm (fun b o hb e => hs1.extBut b o hb e) hSI ha
    have hk1 : (TK prog w).is h1 q.1 q.2.1 := tk_ext hk fun o e => hs1.extBut _ o hqI e
    obtain ⟨o, ho, hc, n, hd⟩ := id ht1
    show wpAny _ A.in1 (holding [Value.ref b] _ >>= _) _ _ _
    refine wpAny_bind (wpAny_holding ?_)
    refine wpAny_bind (wpAny_tryCatch ?_)
    unfold Builtin.Dict.pairItems
    refine wpAny_bind (wpAny_typeOf (T := "tuple") ⟨o, ho, hc⟩ ?_)
    rw [if_pos (by first | decide | rfl | simp)]
    refine wpAny_bind (wpAny_seqItems ho hd (wpAny_pure ?_))
    show wpAny _ A.in1 (holding [.ref q.2.1, q.2.2] (dictSet S (.ref q.2.1) q.2.2)) _ _ _
    refine wpAny_holding (wpAny_dictSet_heap (knd := TK prog w) (k := q.1) (a := q.2.1) (tupleKind_room_in1 hu) hk1 hm1 (fun h2 hm2 hs2 => ?_) (by omega))
    refine wpAny_pure ⟨plainId_quiet ud_plain _, upd_loopT (items := items) hu hh hlI hSI hSl rest (i + 1) (storedH acc q.1 q.2.1 q.2.2) (ix + 1) 0 _ (show items.size = i + 1 + rest.length by omega) ?_ (fun j q' e => ?_) ?_ ?_ ?_ hm2 fun h' tk hd' k => ?_⟩
    · have z := storedH_length acc q.1 q.2.1 q.2.2
      omega
    · obtain ⟨b', hb', hbS', hbI', htup', hqS', hqI', hk'⟩ := ht (j + 1) q' (by simpa using e)
      refine ⟨b', ?_, hbS', hbI', (htup'.extBut hs1.extBut hbI').extBut hs2.extBut hbS', hqS', hqI', tk_ext hk' fun o' e' => hs2.extBut _ o' hqS' (hs1.extBut _ o' hqI' e')⟩
      rw [show i + 1 + j = i + (j + 1) by omega]
      exact hb'
    · exact hit1.at fun o' e => hs2.extBut I o' (Ne.symm hSI) e
    · exact hl1.extBut hs2.extBut (Ne.symm hSl)
    · intro x hx
      rcases storedH_addr hx with e | ⟨y, hy, e⟩
      · rw [e]; exact hqI
      · rw [← e]; exact ha y hy
    · exact hR h' tk hd' fun c oc h3 h4 e => k c oc h3 h4 (hs2.extBut c oc h3 (hs1.extBut c oc h4 e))
/-- dict(l) of a list of pairs whose keys are tuples -/
theorem call_dict_pairsT {s : Shared} {l : Addr} {ol : Obj} {items : Array Value} {n : Nat} {prs : List (List Key × Addr × Value)} {Q : Value → Shared → Prop} (hu : A.units + 8 < cLine) (hh : A.handled = none) (hl : s.heap.get? l = some ol) (hc : ol.cls = .type "list") (hd : ol.dict = none)
    (hdat : ol.data = .seq items n) (hsz : items.size = prs.length) (hln : prs.length ≤ sizeLine)
    (ht : ∀ (j : Nat) (q : List Key × Addr × Value), prs[j]? = some q → ∃ b : Addr, items[j]? = some (.ref b) ∧ IsTup s.heap b #[.ref q.2.1, q.2.2] ∧ (TK prog w).is s.heap q.1 q.2.1)
    (h : ∀ h' tk, h'.DictOfH (TK prog w) s.heap.objs.size (mergedH [] prs) → (∀ b o, s.heap.get? b = some o → h'.get? b = some o) → Q (.ref s.heap.objs.size) { s with heap := h', toks := tk }) :
    wpAny (model prog w) A (call (.type "dict") [.ref l]) Q E s := by
  refine callType_codes (Q₁ := fun obj s₁ => obj = .ref s.heap.objs.size ∧ s₁ = { s with heap := s.heap.push { cls := .type "dict", data := .dict #[] } }) PySem.F.kt_called_dict (PySem.F.kt_typeCall_dict_1 _) PySem.F.entry_dict_init (kt_code_dict_new _ ⟨rfl, rfl⟩) ?_
  rintro obj s₁ ⟨rfl, rfl⟩
  have hnew : (s.heap.push { cls := .type "dict", data := .dict #[] }).DictOfH (TK prog w) s.heap.objs.size [] := Heap.DictOfH.new s.heap
  have k0 : ∀ b o, s.heap.get? b = some o → (s.heap.push { cls := .type "dict", data := .dict #[] }).get? b = some o := fun b o e => Heap.get?_push_of_some _ e
  refine ⟨hnew.typeIs, PySem.F.args_dict_init_2 _ _, ?_⟩
  unfold Builtin.«dict.__init__»
  refine wpAny_bind ?_
  unfold Builtin.Dict.selfAndRest
  refine wpAny_bind (wpAny_notOrdered_dict hnew.typeIs ?_)
  show wpAny _ _ (pure (s.heap.objs.size, [Value.ref l])) _ _ _
  refine wpAny_pure ?_
  show wpAny _ _ (Builtin.Dict.updateFrom "dict.__init__" s.heap.objs.size (.ref l) [] .none) _ _ _
  unfold Builtin.Dict.updateFrom
  refine wpAny_bind (wpAny_typeOf (T := "list") ⟨ol, k0 _ _ hl, hc⟩ ?_)
  rw [if_pos (by first | decide | rfl | simp)]
  refine wpAny_bind (miss_list (k0 _ _ hl) hc hdat hd hh fun h1 tk1 hk1 => ?_)
  rw [if_pos (show (none : Option Value).isNone = true from rfl)]
  refine wpAny_bind (wpAny_rule ?_)
  have hl1 : h1.IsList l items := ⟨ol, hk1 _ _ (k0 _ _ hl), hc, n, hdat⟩
  have hS1 : s.heap.objs.size < h1.objs.size := by
    have e : (s.heap.push { cls := .type "dict", data := .dict #[] }).get? s.heap.objs.size = some { cls := .type "dict", data := .dict #[] } := Heap.get?_push_size _ rfl
    exact Heap.lt_size (hk1 _ _ e)
  refine wpAny_bind (wpAny_pyIter_list hl1 ?_)
  have k2 : ∀ b o, h1.get? b = some o → (h1.push { cls := .type "list_iterator", data := .fields #[.ref l, .int 0 0] }).get? b = some o := fun b o e => Heap.get?_push_of_some _ e
  have hlt : l < s.heap.objs.size := Heap.lt_size hl
  have hnew2 : (h1.push { cls := .type "list_iterator", data := .fields #[.ref l, .int 0 0] }).DictOfH (TK prog w) s.heap.objs.size [] := by
    obtain ⟨o, es, ep, e1, e2, e3, e4, e5, e6⟩ := hnew
    exact ⟨o, es, ep, k2 _ _ (hk1 _ _ e1), e2, e3, e4, fun x hx => (by cases hx), e6⟩
  have key := upd_loopT (prog := prog) (w := w) (A := A.in1) (R := wants (fun r s₂ => r = .none ∧ Q (.ref s.heap.objs.size) s₂) E) (S := s.heap.objs.size) (I := h1.objs.size) (l := l) (items := items) (res := Value.none) (by show A.units + 1 + 1 < cLine; omega) hh
    (Nat.ne_of_lt (Nat.lt_trans hlt hS1)) (Nat.ne_of_lt hS1) (Nat.ne_of_gt hlt) prs 0 [] 0 0
    { s with heap := h1.push { cls := .type "list_iterator", data := .fields #[.ref l, .int 0 0] }, toks := tk1 } (by rw [hsz, Nat.zero_add]) (by rw [List.length_nil, Nat.zero_add]; exact hln)
    (fun j q e => by
      obtain ⟨b, e1, e2, e3⟩ := ht j q e
      have hb : b < s.heap.objs.size := e2.lt
      have hq : q.2.1 < s.heap.objs.size := tk_lt e3
      exact ⟨b, by rw [Nat.zero_add]; exact e1, Nat.ne_of_lt hb, Nat.ne_of_lt (Nat.lt_trans hb hS1), e2.keeps fun c o z => k2 _ _ (hk1 _ _ (k0 _ _ z)), Nat.ne_of_lt hq, Nat.ne_of_lt (Nat.lt_trans hq hS1), tk_ext e3 fun o z => k2 _ _ (hk1 _ _ (k0 _ _ z))⟩)
    ⟨_, Heap.get?_push_size _ rfl, rfl, rfl⟩ (hl1.at fun o e => k2 _ _ e) (fun x hx => (by cases hx)) hnew2
    (fun h' tk hd' k => ⟨rfl, h h' tk hd' fun b o e => k b o (Nat.ne_of_lt (Heap.lt_size e)) (Nat.ne_of_lt (Nat.lt_trans (Heap.lt_size e) hS1)) (k2 _ _ (hk1 _ _ (k0 _ _ e)))⟩)
  first
    | exact wpAny_pure ⟨plainId_quiet ud_plain _, key⟩
    | exact wpAny_bind (wpAny_pure (wpAny_pure ⟨plainId_quiet ud_plain _, key⟩))
end

/-! ### sorted(d) of a dict whose keys are known -/
section
variable {X : Cx} {pins : List (Addr × Obj)} {σ : L2.St} {H B : Hp} {s : Shared}
theorem sorted_dict (hcalm : X.calm = true) (hu : X.A.units + 64 < cLine) (I : Inv X pins σ H s) (sb : Same B H) {D0 : Addr} {o : Obj} {es : Array DictEntry} {ep : Nat} {us : List Value} {vs : List V} {ds : List D} {Q : VK}
    (lo : (D0 == sysModules) = false) (ho : s.heap.get? D0 = some o) (hx : o.ExactDict) (hd : o.data = .dict es ep) (hus : es.toList.map (·.key) = us) (rv : Vals vs us) (rr : RpA B vs ds) (so : sortOk ds = true)
    (q : ∀ p H' B', Gr H B H' B' → H p = none → B' p = none → OwnRp B' H' p (.list (sorD ds)) → Q (.ref p) H') : wpAny (model X.prog X.w) X.A (call (.builtin "sorted") [.ref D0]) (EP X pins σ Q) X.xe s := by
  unfold sortOk at so
  rw [Bool.and_eq_true, Bool.and_eq_true] at so
  obtain ⟨⟨o1, o2⟩, o3⟩ := so
  have hal : PySem.W.AllAlike ds := fun x hx y hy => List.all_eq_true.mp (List.all_eq_true.mp o1 x hx) y hy
  have ho2 : ∀ x ∈ ds, okNone x = true ∧ x.depth ≤ 60 := fun x hx => by
    have := List.all_eq_true.mp o2 x hx
    rw [Bool.and_eq_true] at this
    exact ⟨this.1, of_decide_eq_true this.2⟩
  have hl : ds.length ≤ sizeLine := of_decide_eq_true o3
  have hlv : us.length = ds.length := (RpA.each I sb rr rv).length
  have hes : es.size = us.length := by rw [← hus, List.length_map, Array.length_toList]
  refine Calls.call_function_entry PyProof.Rows.kind_sorted PyProof.Rows.plain_sorted PyProof.Rows.entry_sorted (PyProof.Rows.args_sorted1 _) ?_
  unfold Builtin.«sorted»
  refine wpAny_bind (m := checkCount "sorted" 1 1 _) (wpAny_pure ?_)
  refine wpAny_bind (PySem.W.kdu_collect (A := X.A.in1) (kdl_raw lo hx hd) (I.ok.hd hcalm) ho (by omega) fun h' tk acc hk hacc => ?_)
  have ea : acc.toList = us := by
    apply List.ext_getElem?
    intro j
    rw [← hus, List.getElem?_map]
    cases hj : acc.toList[j]? with
    | none =>
      have h1 := List.getElem?_eq_none_iff.mp hj
      rw [Array.length_toList, hacc.1] at h1
      rw [List.getElem?_eq_none (by rw [Array.length_toList]; exact h1)]; rfl
    | some v =>
      obtain ⟨en, hen, hv⟩ := hacc.2 j v (by rw [← Array.getElem?_toList]; exact hj)
      rw [Array.getElem?_toList, hen, hv]; rfl
  rw [ea]
  have I1 : Inv X pins σ H { s with heap := h', toks := tk } := I.kept hk
  have ev := RpA.each I1 sb rr rv
  refine wpAny_bind (wpAny_newList ?_ (by omega))
  have hoL : (h'.push (seqObj "list" us.toArray 0)).get? h'.objs.size = some (seqObj "list" us.toArray 0) := Heap.get?_push_size _ rfl
  show wpAny _ _ _ _ _ { s with heap := h'.push (seqObj "list" us.toArray 0), toks := tk }
  have er : PySem.W.EachIs (fun u d => ∃ as, Reads h' u d as) us ds := ev.mono fun _ _ z => z.2
  have old : ∀ b o, h'.get? b = some o → (PySem.W.sortingHeap (h'.push (seqObj "list" us.toArray 0)) h'.objs.size us).get? b = some o := fun b o e =>
    PySem.W.sortingHeap_old (Nat.ne_of_lt (Heap.lt_size e)) (Heap.get?_push_of_some _ e)
  have er' : PySem.W.EachIs (fun v d => ∃ as, Reads (PySem.W.sortingHeap (h'.push (seqObj "list" us.toArray 0)) h'.objs.size us) v d as) us ds := er.mono fun _ _ ⟨as, r⟩ => ⟨as, PyProof.Rows.Reads.keeps old r⟩
  have S : PySem.W.SortsAt X.prog X.w X.A.in1.in1 { s with heap := PySem.W.sortingHeap (h'.push (seqObj "list" us.toArray 0)) h'.objs.size us, toks := tk } (PySem.W.dataKind (PySem.W.sortingHeap (h'.push (seqObj "list" us.toArray 0)) h'.objs.size us) ds) us :=
    sortsAt_any (s := { s with heap := PySem.W.sortingHeap (h'.push (seqObj "list" us.toArray 0)) h'.objs.size us, toks := tk }) er' hal (fun x hx => by
      have := (ho2 x hx).1
      intro z; subst z; cases this) fun x hx => by
      have := (ho2 x hx).2
      show X.A.units + 1 + 1 + x.depth < cLine
      omega
  have out := PySem.W.sortVals_data (h' := PySem.W.sortingHeap (h'.push (seqObj "list" us.toArray 0)) h'.objs.size us) (R := fun u d => ∃ v, RelV v u ∧ Rp B v d) (enc := id) false (ev.mono fun _ _ z => z.1) er' (by rw [List.map_id]; exact hal)
  rw [List.map_id] at out
  obtain ⟨zs, rz, az⟩ := each_RpA out
  refine wpAny_bind (wpAny_holding (wpAny_call_entry PyProof.Rows.slot_list_sort ⟨_, hoL, rfl⟩ PyProof.Rows.entry_list_sort
    (PySem.W.list_sort_vals (s := { s with heap := h'.push (seqObj "list" us.toArray 0), toks := tk }) hoL S (by omega) ⟨_, rfl, ?_⟩)
    (PyProof.Rows.args_list_sort _)))
  obtain ⟨e', he'⟩ := PyProof.Rows.sortedHeap_at (vs := us) (out := (PySem.W.sortVals (PySem.W.dataKind (PySem.W.sortingHeap (h'.push (seqObj "list" us.toArray 0)) h'.objs.size us) ds) false us us).toArray) hoL
  have hp : H h'.objs.size = none := I1.hok.fresh (Nat.le_refl _)
  have g : Gr H B (upd H h'.objs.size (.lst zs)) B := Gr.own sb hp
  refine wpAny_pure ⟨_, rfl, .ref h'.objs.size, _, I1.laid (t' := tk) (o := .lst zs) (fun b u e => ?_) (Nat.le_refl _) ?_, rfl, q _ _ _ g hp (sub_none sb hp) ⟨_, upd_same, az⟩⟩
  · have hb : b < h'.objs.size := Heap.lt_size e
    rw [PyProof.Rows.sortedHeap_old (Nat.ne_of_lt hb) (by rw [size_push']; exact Nat.lt_succ_of_lt hb)]
    exact Heap.get?_push_of_some _ e
  · refine ⟨?_, _, e', rz, he'⟩
    rw [rz.length, PySem.W.sortVals_length false rfl, hlv]
    exact hl
end
end VL

/-! VL11: list(range(n)), tuple(range(n)), sorted(dict(pairs)). -/
namespace VL
open PySem PySem.Spec PyProof.Rows L2
section
variable {X : Cx} {os : Option (Addr × Addr)} {f : Fx D} {a : Expr} {p p2 pos pos2 : Pos}
def rgOk (n : Int) : Bool := decide (-(2 ^ 62) ≤ n ∧ n ≤ 2 ^ 24)
theorem rgOk_of {n : Int} (h : rgOk n = true) : RgOk 0 n := by
  have := of_decide_eq_true h
  exact ⟨by decide, by decide, this.1, by omega, by omega⟩
theorem RpA.rng {B : Hp} (n : Int) : RpA B (rgV 0 n) (rngD 0 n.toNat) := by
  unfold rgV rngD
  rw [Int.sub_zero]
  have : ∀ l : List Nat, RpA B (l.map fun i => V.int (0 + (i : Nat))) (l.map fun k => PyData.int (0 + (k : Nat))) := fun l => by
    induction l with
    | nil => exact .nil
    | cons x r ih => exact .cons (.int _) ih
  exact this _
def lrgD : D → Option D
  | .int n => if rgOk n then some (.list (rngD 0 n.toNat)) else none
  | _ => none
def trgD : D → Option D
  | .int n => if rgOk n then some (.tuple (rngD 0 n.toNat)) else none
  | _ => none
/-- list(range(n)) -/
theorem elrg (hc : X.calm = true) (hg : Gl X "list") (hm : X.mg "list" = none) (hg2 : Gl X "range") (hm2 : X.mg "range" = none) (ha : PE X a (tS os f))
    (na : starEach [.Call (.Name "range" p2) [a] [] pos2] X.env = (false, eval (.Call (.Name "range" p2) [a] [] pos2) X.env) :: starEach [] X.env := by rfl) (na2 : starEach [a] X.env = (false, eval a X.env) :: starEach [] X.env := by rfl) :
    PE X (.Call (.Name "list" p) [.Call (.Name "range" p2) [a] [] pos2] [] pos) (tF os (f1 lrgD f)) := (pe_listRg hc hg hm (prg_1 hg2 hm2 ha na2) na).wk fun σ H Q ⟨δ, st, B, F, d, st', R, ea, q⟩ => by
  obtain ⟨x, s1, e1, eb⟩ := mb_some ea
  obtain ⟨e2, rfl⟩ := ml_some eb
  unfold lrgD at e2
  split at e2
  · next n =>
    split at e2
    · next hr =>
      cases e2
      refine ⟨δ, st, B, F, _, _, R, e1, fun v H1 B1 l1 R1 r1 => ?_⟩
      cases r1
      refine ⟨n, rfl, rgOk_of hr, fun l hl => ?_⟩
      have g : Gr H1 B1 (upd H1 l (.lst (rgV 0 n))) B1 := Gr.own R1.sub hl
      exact q _ _ _ (l1.trans g.leB) (R1.grow g) ⟨_, upd_same, .rng n⟩ (new_grow (H' := H1) R1 hl (sub_none R1.sub hl))
    · cases e2
  · cases e2
def tTupRgZ (te : L2.St → Hp → (Int → Int → Hp → Prop) → Prop) : TE := fun σ H Q => te σ H fun a b H1 => RgOk a b ∧ ∀ (q : Addr) (o : Obj), H1 q = none → o.dict = none → Q (.ref q) (upd H1 q (.tup (rgV a b)))
theorem pe_tupRgZ {e : Expr} {te : L2.St → Hp → (Int → Int → Hp → Prop) → Prop} (hc : X.calm = true) (hg : Gl X "tuple") (hm : X.mg "tuple" = none) (he : PRg X e te) (na : starEach [e] X.env = (false, eval e X.env) :: starEach [] X.env) : PE X (.Call (.Name "tuple" p) [e] [] pos) (tTupRgZ te) := by
  refine ⟨fun pins s σ H Q I h => ?_⟩
  refine Call_ (ld_blt I hg hm boot_tuple (PyProof.Rows.callWith_type1 (args_cons (thn (he pins s σ H _ I h) fun x s1 ⟨r, a, b, t, u, v, H1, ex, hr, I1, ok, q⟩ => args_nil ?_) na) na))
  subst ex
  obtain ⟨b1, b2, b3, b4, b5⟩ := ok
  refine call_tuple_range (n := (b - a).toNat) (I1.ok.hd hc) hr (small_one b1 b2 b3 b4) (rangeSize_nat a b) b5 fun h' tk acc hk hi => ?_
  have I2 : Inv X pins σ H1 { s1 with heap := h', toks := tk } := I1.kept hk
  let o : Obj := { cls := .type "tuple", data := .seq acc.toList.toArray }
  refine ⟨.ref h'.objs.size, upd H1 h'.objs.size (.tup (rgV a b)), I2.laid (t' := tk) (fun c o e => Heap.get?_push_of_some _ e) (Nat.le_refl _) (show ObjOk X.prog X.w _ _ _ (.tup (rgV a b)) from ⟨?_, acc.toList, vals_rg hi, ?_⟩), rfl, q _ o (I2.hok.fresh (Nat.le_refl _)) rfl⟩
  · rw [rgV_length, sizeLine_eq]; omega
  · rw [Array.toArray_toList]; exact IsTup.new _ _
/-- tuple(range(n)) -/
theorem etrg (hc : X.calm = true) (hg : Gl X "tuple") (hm : X.mg "tuple" = none) (hg2 : Gl X "range") (hm2 : X.mg "range" = none) (ha : PE X a (tS os f))
    (na : starEach [.Call (.Name "range" p2) [a] [] pos2] X.env = (false, eval (.Call (.Name "range" p2) [a] [] pos2) X.env) :: starEach [] X.env := by rfl) (na2 : starEach [a] X.env = (false, eval a X.env) :: starEach [] X.env := by rfl) :
    PE X (.Call (.Name "tuple" p) [.Call (.Name "range" p2) [a] [] pos2] [] pos) (tS os (f1 trgD f)) := (pe_tupRgZ hc hg hm (prg_1 hg2 hm2 ha na2) na).wk fun σ H Q ⟨δ, st, B, F, d, st', R, ea, q⟩ => by
  obtain ⟨x, s1, e1, eb⟩ := mb_some ea
  obtain ⟨e2, rfl⟩ := ml_some eb
  unfold trgD at e2
  split at e2
  · next n =>
    split at e2
    · next hr =>
      cases e2
      refine ⟨δ, st, B, F, _, _, R, e1, fun v H1 B1 l1 R1 r1 => ?_⟩
      cases r1
      refine ⟨n, rfl, rgOk_of hr, fun l o hl ho => ?_⟩
      have g : Gr H1 B1 (upd H1 l (.tup (rgV 0 n))) (upd B1 l (.tup (rgV 0 n))) := Gr.put R1.sub hl
      exact q _ _ _ (l1.trans g.leB) (R1.grow g) (.tup (.put ho) (.rng n))
    · cases e2
  · cases e2
end
/-- each once, at its first place -/
def dedupD : List D → List D
  | [] => []
  | d :: r => d :: (dedupD r).filter fun x => !PyData.eqv x d
def keysP : List D → Option (List D)
  | [] => some []
  | .tuple [k, _] :: r => (keysP r).map (k :: ·)
  | _ => none
def isIntD : D → Bool
  | .int _ => true
  | _ => false
def tupInts : D → Bool
  | .tuple ds => (intsOf ds).isSome
  | _ => false
def sdOk (ks : List D) : Bool := (ks.all isIntD || ks.all tupInts) && decide (ks.length ≤ sizeLine)
/-- sorted(dict(pairs)), keys ints or tuples of ints -/
def sdD : D → Option D
  | .list ps => (keysP ps).bind fun ks => if sdOk ks = true then some (.list (sorD (dedupD ks))) else none
  | _ => none
def dI (l : List Int) : D := .tuple (l.map PyData.int)
theorem all_ints : ∀ {ks : List D}, ks.all isIntD = true → ∃ is : List Int, ks = is.map PyData.int
  | [], _ => ⟨[], rfl⟩
  | d :: r, h => by
    rw [List.all_cons, Bool.and_eq_true] at h
    obtain ⟨is, rfl⟩ := all_ints h.2
    cases d with
    | int i => exact ⟨i :: is, rfl⟩
    | _ => exact nomatch h.1
theorem all_tups : ∀ {ks : List D}, ks.all tupInts = true → ∃ ls : List (List Int), ks = ls.map dI
  | [], _ => ⟨[], rfl⟩
  | d :: r, h => by
    rw [List.all_cons, Bool.and_eq_true] at h
    obtain ⟨ls, rfl⟩ := all_tups h.2
    cases d with
    | tuple ds =>
      obtain ⟨is, hi⟩ := Option.isSome_iff_exists.mp (show (intsOf ds).isSome = true from h.1)
      refine ⟨is :: ls, ?_⟩
      rw [intsOf_some hi]; rfl
    | _ => exact nomatch h.1
theorem eqvAll_I : ∀ a b : List Int, PyData.eqvAll (a.map PyData.int) (b.map PyData.int) = decide (a = b)
  | [], [] => by simp [PyData.eqvAll]
  | [], y :: b => by simp [PyData.eqvAll]
  | x :: a, [] => by simp [PyData.eqvAll]
  | x :: a, y :: b => by
    have ih := eqvAll_I a b
    rw [List.map_cons, List.map_cons]
    unfold PyData.eqvAll
    rw [ih]
    simp only [PyData.eqv]
    by_cases h1 : x = y
    · subst h1
      by_cases h2 : a = b
      · subst h2; simp
      · simp [h2]
    · simp [h1]
theorem eqv_dI (a b : List Int) : PyData.eqv (dI a) (dI b) = decide (a = b) := by
  unfold dI
  simp only [PyData.eqv]
  exact eqvAll_I a b
theorem eqv_iI (a b : Int) : PyData.eqv (.int a) (.int b) = decide (a = b) := by
  simp only [PyData.eqv]
  by_cases h : a = b
  · subst h; simp
  · simp [h]
theorem dedup_ddK {α β : Type} [DecidableEq β] (g : α → D) (f : α → β) (h : ∀ a b, PyData.eqv (g a) (g b) = decide (f a = f b)) : ∀ l : List α, dedupD (l.map g) = (ddK f l).map g
  | [] => rfl
  | a :: r => by
    have ih := dedup_ddK g f h r
    rw [List.map_cons]
    unfold dedupD ddK
    rw [ih, List.map_cons, List.filter_map]
    congr 2
    apply List.filter_congr
    intro x _
    show (!PyData.eqv (g x) (g a)) = !decide (f x = f a)
    rw [h]
theorem sortOk_of {α : Type} {g : α → D} {l : List α} (h1 : ∀ a b, W.alike (g a) (g b) = true) (h2 : ∀ a, okNone (g a) = true ∧ (g a).depth ≤ 60) (h3 : l.length ≤ sizeLine) : sortOk (l.map g) = true := by
  unfold sortOk
  rw [Bool.and_eq_true, Bool.and_eq_true]
  refine ⟨⟨List.all_eq_true.mpr fun x hx => List.all_eq_true.mpr fun y hy => ?_, List.all_eq_true.mpr fun x hx => ?_⟩, decide_eq_true (by rw [List.length_map]; exact h3)⟩
  · obtain ⟨a, _, rfl⟩ := List.mem_map.mp hx
    obtain ⟨b, _, rfl⟩ := List.mem_map.mp hy
    exact h1 a b
  · obtain ⟨a, _, rfl⟩ := List.mem_map.mp hx
    rw [Bool.and_eq_true]
    exact ⟨(h2 a).1, decide_eq_true (h2 a).2⟩
theorem alike_dI (a b : List Int) : W.alike (dI a) (dI b) = true := by
  have := W.alike_ints a b
  unfold dI
  simpa [W.alike] using this
theorem depth_dI (a : List Int) : (dI a).depth = 1 := by
  unfold dI
  simp only [PyData.depth]
  rw [W.depth_ints]
section
variable {X : Cx} {pins : List (Addr × Obj)} {σ : L2.St} {H B : Hp} {s : Shared}
theorem keysP_cons {d : D} {r ks : List D} (h : keysP (d :: r) = some ks) : ∃ k v ks', d = .tuple [k, v] ∧ keysP r = some ks' ∧ ks = k :: ks' := by
  unfold keysP at h
  split at h
  · next e => cases e
  · next k v r' e =>
    cases e
    obtain ⟨ks', h1, h2⟩ := Option.map_eq_some_iff.mp h
    exact ⟨k, v, ks', rfl, h1, h2.symm⟩
  · cases h
/-- a pair in the heap -/
theorem pair_at (I : Inv X pins σ H s) (sb : Same B H) {v : V} {u : Value} {k d : D} (r : Rp B v (.tuple [k, d])) (ru : RelV v u) : ∃ b u1 u2 v1, u = .ref b ∧ IsTup s.heap b #[u1, u2] ∧ RelV v1 u1 ∧ Rp B v1 k := by
  cases r with
  | tup ht ra =>
    cases ra with
    | cons r1 ra =>
      cases ra with
      | cons r2 ra =>
        cases ra
        obtain ⟨its, rv, hT, _⟩ := I.tuple (ht.mono sb).sq
        obtain ⟨u1, u2, ei, ru1, ru2⟩ := vals2 rv
        subst ei
        cases ru
        exact ⟨_, u1, u2, _, rfl, hT, ru1, r1⟩
theorem prs_int (I : Inv X pins σ H s) (sb : Same B H) : ∀ {xs : List V} {ps : List D} {us : List Value} {is : List Int}, RpA B xs ps → Vals xs us → keysP ps = some (is.map PyData.int) →
    ∃ prs : List (Key × Value), prs.map (·.1) = is.map Sum.inl ∧ prs.length = ps.length ∧ ∀ (j : Nat) (q : Key × Value), prs[j]? = some q → ∃ (b : Addr) (u : Value), us[j]? = some (.ref b) ∧ IsTup s.heap b #[u, q.2] ∧ keyIs q.1 u = true
  | _, _, _, is, .nil, .nil, h => by
    unfold keysP at h
    cases is with
    | nil => exact ⟨[], rfl, rfl, fun j q e => by simp at e⟩
    | cons i r => cases h
  | _, _, _, is, .cons r1 rr, .cons ru rv, h => by
    obtain ⟨k, d, ks', e1, e2, e3⟩ := keysP_cons h
    cases is with
    | nil => cases e3
    | cons i is =>
      rw [List.map_cons] at e3
      obtain ⟨e4, e5⟩ := List.cons.inj e3
      subst e1 e4 e5
      obtain ⟨prs, h1, h2, h3⟩ := prs_int I sb rr rv e2
      obtain ⟨b, u1, u2, v1, hb, hT, ru1, rk⟩ := pair_at I sb r1 ru
      cases rk
      refine ⟨(.inl i, u2) :: prs, by rw [List.map_cons, List.map_cons, h1], by rw [List.length_cons, List.length_cons, h2], fun j q e => ?_⟩
      cases j with
      | zero =>
        cases e
        exact ⟨b, u1, by rw [hb]; rfl, hT, kV_is (P := X.prog) (w := X.w) (k := .inl i) ru1⟩
      | succ j =>
        obtain ⟨b', u', g1, g2, g3⟩ := h3 j q (by simpa using e)
        exact ⟨b', u', by simpa using g1, g2, g3⟩
theorem kV_ints (l : List Int) : (l.map Sum.inl : List Key).map kV = l.map V.int := by
  rw [List.map_map]; rfl
theorem rpA_ints {B : Hp} : ∀ {xs : List V} {l : List Int}, RpA B xs (l.map PyData.int) → xs = l.map V.int
  | _, [], .nil => rfl
  | _, i :: l, .cons r rr => by
    cases r
    rw [List.map_cons, rpA_ints rr]
theorem prs_tup (I : Inv X pins σ H s) (sb : Same B H) : ∀ {xs : List V} {ps : List D} {us : List Value} {ls : List (List Int)}, RpA B xs ps → Vals xs us → keysP ps = some (ls.map dI) →
    ∃ (prs : List (List Key × Addr × Value)) (zs : List (List Int × Addr)), ls = zs.map (·.1) ∧ prs.map kaOf = zs.map (fun z => ((z.1.map Sum.inl : List Key), z.2)) ∧ (∀ z ∈ zs, Rp B (.ref z.2) (dI z.1)) ∧ prs.length = ps.length ∧
      ∀ (j : Nat) (q : List Key × Addr × Value), prs[j]? = some q → ∃ b : Addr, us[j]? = some (.ref b) ∧ IsTup s.heap b #[.ref q.2.1, q.2.2] ∧ (TK X.prog X.w).is s.heap q.1 q.2.1
  | _, _, _, ls, .nil, .nil, h => by
    unfold keysP at h
    cases ls with
    | nil => exact ⟨[], [], rfl, rfl, fun z hz => (by cases hz), rfl, fun j q e => by simp at e⟩
    | cons i r => cases h
  | _, _, _, ls, .cons r1 rr, .cons ru rv, h => by
    obtain ⟨k, d, ks', e1, e2, e3⟩ := keysP_cons h
    cases ls with
    | nil => cases e3
    | cons l ls =>
      rw [List.map_cons] at e3
      obtain ⟨e4, e5⟩ := List.cons.inj e3
      subst e1 e4 e5
      obtain ⟨prs, zs, h0, h1, hz, h2, h3⟩ := prs_tup I sb rr rv e2
      obtain ⟨b, u1, u2, v1, hb, hT, ru1, rk⟩ := pair_at I sb r1 ru
      have rk0 := rk
      unfold dI at rk
      cases rk with
      | @tup c ys _ ht ra =>
        obtain rfl := rpA_ints ra
        cases ru1
        obtain ⟨its, rv2, ⟨o, g1, g2, n, g3⟩, _⟩ := I.tuple (ht.mono sb).sq
        have hk : (TK X.prog X.w).is s.heap (l.map Sum.inl) c := by
          have hi := items_are (P := X.prog) (w := X.w) (ks := l.map Sum.inl) (us := its) (by rw [kV_ints]; exact rv2)
          exact (show IsTupleKey (mixKind X.prog X.w) s.heap (l.map Sum.inl) c from ⟨o, its.toArray, n, g1, g2, g3, by simpa using hi⟩)
        refine ⟨(l.map Sum.inl, c, u2) :: prs, (l, c) :: zs, by rw [List.map_cons, h0], by rw [List.map_cons, List.map_cons, h1]; rfl, fun z hm => ?_, by rw [List.length_cons, List.length_cons, h2], fun j q e => ?_⟩
        · rcases List.mem_cons.mp hm with hm | hm
          · subst hm; exact rk0
          · exact hz z hm
        · cases j with
          | zero =>
            cases e
            exact ⟨b, by rw [hb]; rfl, hT, hk⟩
          | succ j =>
            obtain ⟨b', g1, g2, g3⟩ := h3 j q (by simpa using e)
            exact ⟨b', by simpa using g1, g2, g3⟩
theorem pairs_vals : ∀ {es : List DictEntry} {kvs : List (Key × Value)}, Pairs (mixKind X.prog X.w) es kvs → Vals (kvs.map fun kv => kV kv.1) (es.map (·.key))
  | _, _, .nil => .nil
  | _, _, .cons h _ t => .cons (keyIs_rel h) (pairs_vals t)
theorem rpA_map {α : Type} {g : α → V} {e : α → D} : ∀ {l : List α}, (∀ x ∈ l, Rp B (g x) (e x)) → RpA B (l.map g) (l.map e)
  | [], _ => .nil
  | x :: l, h => .cons (h x (.head _)) (rpA_map fun y hy => h y (.tail _ hy))
theorem vals_map {α : Type} {g : α → V} {e : α → Value} : ∀ {l : List α}, (∀ x ∈ l, RelV (g x) (e x)) → Vals (l.map g) (l.map e)
  | [], _ => .nil
  | x :: l, h => .cons (h x (.head _)) (vals_map fun y hy => h y (.tail _ hy))
/-- what a dict's object tells of its keys -/
def DKeys (X : Cx) (B : Hp) (s : Shared) (a : Addr) (ds : List D) : Prop :=
  (a == sysModules) = false ∧ ∃ (o : Obj) (es : Array DictEntry) (ep : Nat) (vs : List V), s.heap.get? a = some o ∧ o.ExactDict ∧ o.data = .dict es ep ∧ Vals vs (es.toList.map (·.key)) ∧ RpA B vs ds
theorem dict_keys (hc : X.calm = true) (hu : X.A.units + 64 < cLine) (I : Inv X pins σ H s) (sb : Same B H) {v : V} {u : Value} {ps ks : List D} (w : Wk B H v (.list ps)) (ru : RelV v u) (hk : keysP ps = some ks) (so : sdOk ks = true) {Q : Value → Shared → Prop}
    (q : ∀ a s', Inv X pins σ H s' → DKeys X B s' a (dedupD ks) → Q (.ref a) s') : wpAny (model X.prog X.w) X.A (call (.type "dict") [u]) Q X.xe s := by
  obtain ⟨a, xs, rfl, hH, rr⟩ := w.lst sb
  cases ru
  obtain ⟨its, rv, pl, hz⟩ := I.list (.of hH)
  obtain ⟨o, n, ho, hcl, hd, hdat⟩ := pl
  have hlen : its.length = ps.length := (RpA.each I sb rr rv).length
  have hm : (s.heap.objs.size == sysModules) = false := beq_eq_false_iff_ne.mpr (Nat.ne_of_gt I.big)
  have hz2 : ps.length ≤ sizeLine := by rw [← hlen, ← rv.length]; exact hz
  unfold sdOk at so
  rw [Bool.and_eq_true, Bool.or_eq_true] at so
  rcases so.1 with hi | ht
  · obtain ⟨is, rfl⟩ := all_ints hi
    obtain ⟨prs, h1, h2, h3⟩ := prs_int I sb rr rv hk
    refine call_dict_pairs (prs := prs) (I.ok.hd hc) ho hcl hd hdat (by rw [List.size_toArray, hlen, h2]) (by rw [h2]; exact hz2) (fun j q' e => ?_) fun h' tk hd' k => ?_
    · obtain ⟨b, u, e1, e2, e3⟩ := h3 j q' e
      exact ⟨b, u, by simpa using e1, e2, e3⟩
    · obtain ⟨o', es, ep, g1, g2, g3, _, g5, _⟩ := hd'
      refine q _ _ (I.kept k) ⟨hm, o', es, ep, _, g1, g2, g3, pairs_vals g5, ?_⟩
      have e1 := merged_keys prs []
      rw [show ([] : List (Key × Value)).map (·.1) = [] from rfl, List.nil_append, List.filter_eq_self.mpr (fun x _ => by simp), h1, ddK_map] at e1
      have e2 : ((merged [] prs).map fun kv => kV kv.1) = (ddK (fun i : Int => i) is).map V.int := by
        rw [show (fun kv : Key × Value => kV kv.1) = kV ∘ (fun kv : Key × Value => kv.1) from rfl, ← List.map_map, e1, List.map_map, ddK_congr (f := fun x : Int => (Sum.inl x : Key)) (g := fun i : Int => i) fun x y => ⟨fun z => Sum.inl.inj z, fun z => by rw [z]⟩]
        rfl
      rw [e2, dedup_ddK PyData.int (fun i : Int => i) eqv_iI]
      exact rpA_map fun i _ => .int i
  · obtain ⟨ls, rfl⟩ := all_tups ht
    obtain ⟨prs, zs, rfl, h1, hzs, h2, h3⟩ := prs_tup I sb rr rv hk
    refine call_dict_pairsT (prs := prs) (by omega) (I.ok.hd hc) ho hcl hd hdat (by rw [List.size_toArray, hlen, h2]) (by rw [h2]; exact hz2) (fun j q' e => ?_) fun h' tk hd' k => ?_
    · obtain ⟨b, e1, e2, e3⟩ := h3 j q' e
      exact ⟨b, by simpa using e1, e2, e3⟩
    · obtain ⟨o', es, ep, g1, g2, g3, g4, _, _⟩ := hd'
      have e1 := mergedH_keys prs []
      rw [show ([] : List (List Key × Addr × Value)).map kaOf = [] from rfl, List.nil_append, List.filter_eq_self.mpr (fun x _ => by simp), h1, ddK_map, ddK_congr (f := fun z : List Int × Addr => (z.1.map Sum.inl : List Key)) (g := fun z : List Int × Addr => z.1) (fun x y => ⟨fun z => (List.map_inj_right fun a b e => Sum.inl.inj e).mp z, fun z => by show x.1.map Sum.inl = y.1.map Sum.inl; rw [z]⟩)] at e1
      have e2 : es.toList.map (·.key) = (ddK (fun z : List Int × Addr => z.1) zs).map fun z => Value.ref z.2 := by
        rw [g4, List.map_map, show ((fun e : DictEntry => e.key) ∘ entryOfKey (TK X.prog X.w)) = (fun p : List Key × Addr => Value.ref p.2) ∘ kaOf from rfl, ← List.map_map, e1, List.map_map]
        rfl
      refine q _ _ (I.kept k) ⟨hm, o', es, ep, (ddK (fun z : List Int × Addr => z.1) zs).map fun z => V.ref z.2, g1, g2, g3, by rw [e2]; exact vals_map fun _ _ => rfl, ?_⟩
      rw [List.map_map, dedup_ddK (dI ∘ (fun z : List Int × Addr => z.1)) (fun z : List Int × Addr => z.1) fun a b => eqv_dI a.1 b.1]
      exact rpA_map fun z hm2 => hzs z (ddK_mem hm2)
theorem sdOk_sort {ks : List D} (so : sdOk ks = true) : sortOk (dedupD ks) = true := by
  unfold sdOk at so
  rw [Bool.and_eq_true, Bool.or_eq_true] at so
  have hl : ks.length ≤ sizeLine := of_decide_eq_true so.2
  rcases so.1 with hi | ht
  · obtain ⟨is, rfl⟩ := all_ints hi
    rw [dedup_ddK PyData.int (fun i : Int => i) eqv_iI]
    rw [List.length_map] at hl
    exact sortOk_of (fun a b => by simp [W.alike]) (fun a => by simp [okNone, PyData.depth]) (Nat.le_trans (ddK_length is) hl)
  · obtain ⟨ls, rfl⟩ := all_tups ht
    rw [dedup_ddK dI (fun l : List Int => l) eqv_dI]
    rw [List.length_map] at hl
    exact sortOk_of alike_dI (fun a => ⟨rfl, by rw [depth_dI]; decide⟩) (Nat.le_trans (ddK_length ls) hl)
end
section
variable {X : Cx} {os : Option (Addr × Addr)} {f : Fx D} {a : Expr} {p p2 pos pos2 : Pos}
theorem esd (hc : X.calm = true) (hu : X.A.units + 64 < cLine) (hg : Gl X "sorted") (hm : X.mg "sorted" = none) (hg2 : Gl X "dict") (hm2 : X.mg "dict" = none) (ha : PE X a (tW os f))
    (na : starEach [.Call (.Name "dict" p2) [a] [] pos2] X.env = (false, eval (.Call (.Name "dict" p2) [a] [] pos2) X.env) :: starEach [] X.env := by rfl) (na2 : starEach [a] X.env = (false, eval a X.env) :: starEach [] X.env := by rfl) :
    PE X (.Call (.Name "sorted" p) [.Call (.Name "dict" p2) [a] [] pos2] [] pos) (tF os (f1 sdD f)) := by
  refine ⟨fun pins s σ H Q I ⟨δ, st, B, F, d, st', R, ea, q⟩ => ?_⟩
  obtain ⟨x, s1, e1, eb⟩ := mb_some ea
  obtain ⟨e2, rfl⟩ := ml_some eb
  cases x with
  | list ps =>
    obtain ⟨ks, hk, e3⟩ := Option.bind_eq_some_iff.mp (show (keysP ps).bind (fun ks => if sdOk ks = true then some (PyData.list (sorD (dedupD ks))) else none) = some d from e2)
    by_cases so : sdOk ks = true
    · rw [if_pos so] at e3
      cases e3
      refine wpAny_Call_Name_kw (ld_blt I hg hm (show bootBuiltins (Str.ofString "sorted") = some (.builtin "sorted") by decide +kernel) (PyProof.Rows.callWith_builtin1 (args_cons ?_ na) na))
      refine wpAny_Call_Name_kw (ld_blt I hg2 hm2 PyProof.Rows.boot_dict (PyProof.Rows.callWith_type1 (one_arg (R := fun v H2 => ∃ B', Same B B' ∧ Rel os δ st' σ H2 B' F ∧ Wz δ σ B' v (.list ps)) ha I ⟨δ, st, B, F, _, _, R, e1, fun v H' B' l1 R1 w1 => ⟨B', l1, R1, w1⟩⟩ (fun v s2 y H2 I2 r qq => ?_) na2) na2))
      obtain ⟨B', l1, R1, w1⟩ := qq
      refine dict_keys hc hu I2 R1.sub (w1.wk R1) r hk so fun D0 s3 I3 dk => args_nil ?_
      obtain ⟨lo, o, es, ep, vs, g1, g2, g3, g4, g5⟩ := dk
      refine sorted_dict hc hu I3 R1.sub lo g1 g2 g3 rfl g4 g5 (sdOk_sort so) fun l H4 B4 g hp hb ow => ?_
      exact q l H4 B4 (l1.trans g.leB) (R1.grow g) ow (new_grow (H' := H4) R1 hp hb)
    · rw [if_neg so] at e3; cases e3
  | _ => cases e2
end
end VL

/-! VL12: the source: its numbers read and written, its cells taken; expressions that change an owned slot. -/
namespace VL
open PySem PySem.Spec PyProof.Rows L2
inductive SK where
  | left | mixed | turn
def SK.get : SK → Src → Int
  | .left, s => s.left
  | .mixed, s => s.mixed
  | .turn, s => s.turn
def SK.put : SK → Src → Int → Src
  | .left, s, i => { s with left := i }
  | .mixed, s, i => { s with mixed := i }
  | .turn, s, i => { s with turn := i }
theorem put_cells (k : SK) (s : Src) (i : Int) : (k.put s i).cells = s.cells := by cases k <;> rfl
def SK.str : SK → Str
  | .left => Str.ofString "left"
  | .mixed => Str.ofString "mixed"
  | .turn => Str.ofString "turn"
def srcK (L : Addr) (st : Src) : List (Key × V) := [(.inr (Str.ofString "cells"), .ref L), (.inr (Str.ofString "left"), .int st.left), (.inr (Str.ofString "mixed"), .int st.mixed), (.inr (Str.ofString "turn"), .int st.turn)]
theorem n_cl : Str.ofString "cells" ≠ Str.ofString "left" := by decide +kernel
theorem n_cm : Str.ofString "cells" ≠ Str.ofString "mixed" := by decide +kernel
theorem n_ct : Str.ofString "cells" ≠ Str.ofString "turn" := by decide +kernel
theorem n_lm : Str.ofString "left" ≠ Str.ofString "mixed" := by decide +kernel
theorem n_lt : Str.ofString "left" ≠ Str.ofString "turn" := by decide +kernel
theorem n_mt : Str.ofString "mixed" ≠ Str.ofString "turn" := by decide +kernel
theorem inr_ne {a b : Str} (h : a ≠ b) : ¬ ((Sum.inr a : Key) = Sum.inr b) := fun z => h (Sum.inr.inj z)
theorem srcK_get (L : Addr) (st : Src) (k : SK) : valV (srcK L st) (.inr k.str) = some (.int (k.get st)) := by
  unfold srcK
  cases k with
  | left =>
    show valV _ (Sum.inr (Str.ofString "left")) = _
    rw [valV_neg (p := (Sum.inr (Str.ofString "cells"), V.ref L)) (inr_ne n_cl)]
    exact valV_pos rfl
  | mixed =>
    show valV _ (Sum.inr (Str.ofString "mixed")) = _
    rw [valV_neg (p := (Sum.inr (Str.ofString "cells"), V.ref L)) (inr_ne n_cm), valV_neg (p := (Sum.inr (Str.ofString "left"), V.int st.left)) (inr_ne n_lm)]
    exact valV_pos rfl
  | turn =>
    show valV _ (Sum.inr (Str.ofString "turn")) = _
    rw [valV_neg (p := (Sum.inr (Str.ofString "cells"), V.ref L)) (inr_ne n_ct), valV_neg (p := (Sum.inr (Str.ofString "left"), V.int st.left)) (inr_ne n_lt), valV_neg (p := (Sum.inr (Str.ofString "mixed"), V.int st.mixed)) (inr_ne n_mt)]
    exact valV_pos rfl
theorem srcK_cells (L : Addr) (st : Src) : valV (srcK L st) (.inr (Str.ofString "cells")) = some (.ref L) := valV_pos rfl
theorem srcK_put (L : Addr) (st : Src) (k : SK) (i : Int) : putK (srcK L st) (.inr k.str) (.int i) = srcK L (k.put st i) := by
  have hh : ((srcK L st).any fun kv => decide (kv.1 = Sum.inr k.str)) = true := by
    rw [valV_any, srcK_get]; rfl
  unfold putK
  rw [if_pos hh]
  unfold srcK
  have c : ∀ {a b : Str} {v w : V}, a ≠ b → (if (Sum.inr a : Key) = Sum.inr b then ((Sum.inr a : Key), w) else (Sum.inr a, v)) = (Sum.inr a, v) := fun h => if_neg (inr_ne h)
  cases k with
  | left =>
    show [(if (Sum.inr (Str.ofString "cells") : Key) = Sum.inr (Str.ofString "left") then _ else _), (if (Sum.inr (Str.ofString "left") : Key) = Sum.inr (Str.ofString "left") then _ else _), (if (Sum.inr (Str.ofString "mixed") : Key) = Sum.inr (Str.ofString "left") then _ else _), (if (Sum.inr (Str.ofString "turn") : Key) = Sum.inr (Str.ofString "left") then _ else _)] = _
    rw [c n_cl, if_pos rfl, c n_lm.symm, c n_lt.symm]; rfl
  | mixed =>
    show [(if (Sum.inr (Str.ofString "cells") : Key) = Sum.inr (Str.ofString "mixed") then _ else _), (if (Sum.inr (Str.ofString "left") : Key) = Sum.inr (Str.ofString "mixed") then _ else _), (if (Sum.inr (Str.ofString "mixed") : Key) = Sum.inr (Str.ofString "mixed") then _ else _), (if (Sum.inr (Str.ofString "turn") : Key) = Sum.inr (Str.ofString "mixed") then _ else _)] = _
    rw [c n_cm, c n_lm, if_pos rfl, c n_mt.symm]; rfl
  | turn =>
    show [(if (Sum.inr (Str.ofString "cells") : Key) = Sum.inr (Str.ofString "turn") then _ else _), (if (Sum.inr (Str.ofString "left") : Key) = Sum.inr (Str.ofString "turn") then _ else _), (if (Sum.inr (Str.ofString "mixed") : Key) = Sum.inr (Str.ofString "turn") then _ else _), (if (Sum.inr (Str.ofString "turn") : Key) = Sum.inr (Str.ofString "turn") then _ else _)] = _
    rw [c n_ct, c n_lt, c n_mt, if_pos rfl]; rfl
section
variable {X : Cx} {os : Option (Addr × Addr)} {f g : Fx D} {e : Expr} {p p2 p3 pos cpos apos : Pos} {z : Str} {j : Nat}
def fGet (i : Nat) (k : SK) : Fx D := fun δ s => match δ[i]? with
  | some .src => some (.int (k.get s), s)
  | _ => none
def fLenC (i : Nat) : Fx D := fun δ s => match δ[i]? with
  | some .src => some (.int (s.cells.length : Nat), s)
  | _ => none
/-- source["left"] .. -/
theorem esget {i : Nat} (k : SK) (hu : X.A.units + 1 < cLine) (hz : PE X (.Name z p) (tVar i)) : PE X (.Subscript (.Name z p) (.Constant (.str k.str) j p2) pos) (tS os (fGet i k)) := (pe_dget hu hz pe_str (by intro _ _; rfl)).wk fun σ H Q ⟨δ, st, B, F, d, st', R, ea, q⟩ => by
  unfold fGet at ea
  split at ea
  · next hsl =>
    cases ea
    obtain ⟨S, L, rfl, hS⟩ := R.src i hsl
    obtain ⟨sa, _⟩ := R.sat S L rfl
    refine ⟨.ref S, hS, S, .int (k.get st), rfl, ?_, q _ H B (.refl _) R (.int _)⟩
    exact (congrArg (DGet H S (V.str k.str)) (srcK_get L st k)).mp (DGet.k (k := .inr k.str) sa.1)
  · cases ea
/-- source["cells"] -/
def tCells (i : Nat) : TE := fun σ H Q => ∃ S L st, σ[i]? = some (some (.ref S)) ∧ SrcAt H S L st ∧ Q (.ref L) H
theorem pe_cells {i : Nat} (hu : X.A.units + 1 < cLine) (hz : PE X (.Name z p) (tVar i)) : PE X (.Subscript (.Name z p) (.Constant (.str (Str.ofString "cells")) j p2) pos) (tCells i) := (pe_dget hu hz pe_str (by intro _ _; rfl)).wk fun σ H Q ⟨S, L, st, hS, sa, q⟩ => by
  refine ⟨.ref S, hS, S, .ref L, rfl, ?_, q⟩
  exact (congrArg (DGet H S (V.str (Str.ofString "cells"))) (srcK_cells L st)).mp (DGet.k (k := .inr (Str.ofString "cells")) sa.1)
/-- len(source["cells"]) -/
theorem eslen {i : Nat} (hu : X.A.units + 1 < cLine) (hg : Gl X "len") (hm : X.mg "len" = none) (hv : bootBuiltins "len" = some (.builtin "len")) (hz : PE X (.Name z p) (tVar i))
    (he : starEach [.Subscript (.Name z p) (.Constant (.str (Str.ofString "cells")) j p2) p3] X.env = (false, eval (.Subscript (.Name z p) (.Constant (.str (Str.ofString "cells")) j p2) p3) X.env) :: starEach [] X.env := by rfl) (hpl : (backTo cpos (starEach [] X.env)).any (·.1) = false := by rfl) :
    PE X (.Call (.Name "len" apos) [.Subscript (.Name z p) (.Constant (.str (Str.ofString "cells")) j p2) p3] [] cpos) (tS os (fLenC i)) :=
  (pe_callB (X := X) call_len_seq hg hm hv (pa_cons (pe_cells hu hz) pa_nil he) (by decide) (by decide) he hpl).wk fun σ H Q ⟨δ, st, B, F, d, st', R, ea, q⟩ => by
    unfold fLenC at ea
    split at ea
    · next hsl =>
      cases ea
      obtain ⟨S, L, rfl, hS⟩ := R.src i hsl
      obtain ⟨sa, _⟩ := R.sat S L rfl
      refine ⟨S, L, st, hS, sa, L, _, rfl, .inl (.of sa.2), ?_⟩
      rw [List.length_map]
      exact q _ H B (.refl _) R (.int _)
    · cases ea
theorem SrcAt.nu {H : Hp} {S L : Addr} {st : Src} (sa : SrcAt H S L st) : S ≠ L := fun z => by
  have h1 := sa.1
  rw [z, sa.2] at h1
  cases h1
/-- a number of the source written -/
theorem Rel.sput {δ : List Slot} {st : Src} {σ : L2.St} {H B F : Hp} {S L : Addr} (R : Rel (some (S, L)) δ st σ H B F) {o : HO} {st' : Src} (h : SrcAt (upd H S o) S L st') : Rel (some (S, L)) δ st' σ (upd H S o) B F := by
  obtain ⟨s0, b1, b2, f1, f2⟩ := R.sat S L rfl
  refine R.swap (fun a x n1 n2 e => (upd_ne n1).trans e) h (.refl _) (fun a x e => ?_) fun a x e => .inl e
  have : a ≠ S := fun z => by rw [z, b1] at e; cases e
  exact (upd_ne this).trans (R.sub a x e)
def sPutS (i : Nat) (k : SK) (f : Fx D) : Fx Flow := fun δ => mb (f δ) fun d s => match δ[i]?, d with
  | some .src, .int n => some (.nx δ, k.put s n)
  | _, _ => none
/-- source["left"] = e .. -/
theorem ssput {i : Nat} (k : SK) (hu : X.A.units + 1 < cLine) (hz : PE X (.Name z p) (tVar i)) (he : PE X e (tS os f)) (hs : swapsWith e (some (.Subscript (.Name z p) (.Constant (.str k.str) j p2) p3)) pos.line X.env = pure false := by rfl) :
    PS X (.Assign [.Subscript (.Name z p) (.Constant (.str k.str) j p2) p3] e pos) (tB os (sPutS i k f)) := (ps_dput hu hz pe_str he hs).wk fun E σ H ⟨δ, st, B, F, fl, st', R, ea, x⟩ => by
  obtain ⟨d, s1, e1, eb⟩ := mb_some ea
  split at eb
  · next n hsl =>
    cases eb
    refine ⟨δ, st, B, F, _, s1, R, e1, fun v H1 B1 l1 R1 r1 => ?_⟩
    cases r1
    obtain ⟨S, L, rfl, hS⟩ := R1.src i hsl
    obtain ⟨sa, b1, b2, f1, f2⟩ := R1.sat S L rfl
    refine ⟨.ref S, hS, S, _, rfl, DPut.k (k := .inr k.str) sa.1 (by show 4 < sizeLine; decide), ?_⟩
    refine x σ _ B1 l1 (R1.sput ⟨?_, by rw [put_cells]; exact (upd_ne sa.nu.symm).trans sa.2⟩)
    rw [upd_same]
    refine congrArg some (congrArg HO.dK ((srcK_put L s1 k n).trans ?_))
    cases k <;> rfl
  · cases eb
def sPopS (i : Nat) : Fx Flow := fun δ s => match δ[i]?, s.cells.getLast? with
  | some .src, some n => some (.nx δ, { s with cells := s.cells.dropLast, left := n })
  | _, _ => none
theorem Rel.scell {δ : List Slot} {st : Src} {σ : L2.St} {H B F : Hp} {S L : Addr} (R : Rel (some (S, L)) δ st σ H B F) {o : HO} {st' : Src} (h : SrcAt (upd H L o) S L st') : Rel (some (S, L)) δ st' σ (upd H L o) B F := by
  obtain ⟨s0, b1, b2, f1, f2⟩ := R.sat S L rfl
  refine R.swap (fun a x n1 n2 e => (upd_ne n2).trans e) h (.refl _) (fun a x e => ?_) fun a x e => .inl e
  have : a ≠ L := fun z => by rw [z, b2] at e; cases e
  exact (upd_ne this).trans (R.sub a x e)
/-- source["left"] = source["cells"].pop() -/
theorem sspop {i : Nat} {j2 : Nat} {q1 q2 q3 : Pos} (hu : X.A.units + 1 < cLine) (hz : PE X (.Name z p) (tVar i)) (hz2 : PE X (.Name z q1) (tVar i))
    (hbase : attributeBase (.Subscript (.Name z q1) (.Constant (.str (Str.ofString "cells")) j2 q2) q3) "pop" X.env (eval (.Subscript (.Name z q1) (.Constant (.str (Str.ofString "cells")) j2 q2) q3) X.env) = eval (.Subscript (.Name z q1) (.Constant (.str (Str.ofString "cells")) j2 q2) q3) X.env := by rfl) (hline : (apos.endLine == cpos.line) = true := by rfl)
    (hs : swapsWith (.Call (.Attribute (.Subscript (.Name z q1) (.Constant (.str (Str.ofString "cells")) j2 q2) q3) "pop" apos) [] [] cpos) (some (.Subscript (.Name z p) (.Constant (.str (Str.ofString "left")) j p2) p3)) pos.line X.env = pure false := by rfl) :
    PS X (.Assign [.Subscript (.Name z p) (.Constant (.str (Str.ofString "left")) j p2) p3] (.Call (.Attribute (.Subscript (.Name z q1) (.Constant (.str (Str.ofString "cells")) j2 q2) q3) "pop" apos) [] [] cpos) pos) (tB os (sPopS i)) :=
  (ps_dput hu hz pe_str (pe_bm0 PySem.F.plainAttrs_list PySem.F.slot_list_pop PySem.F.type_list_pop mt_pop (pe_cells hu hz2) hbase hline) hs).wk fun E σ H ⟨δ, st, B, F, fl, st', R, ea, x⟩ => by
    have ea' : (match δ[i]?, st.cells.getLast? with
      | some .src, some n => some (Flow.nx δ, { st with cells := st.cells.dropLast, left := n })
      | _, _ => none) = some (fl, st') := ea
    split at ea'
    · next n hsl hn =>
      cases ea'
      obtain ⟨S, L, rfl, hS⟩ := R.src i hsl
      obtain ⟨sa, b1, b2, f1, f2⟩ := R.sat S L rfl
      have hne : st.cells ≠ [] := fun z => by rw [z] at hn; cases hn
      refine ⟨S, L, st, hS, sa, .inl ⟨rfl, _, .of sa.2⟩, L, _, .int n, rfl, rfl, sa.2, ?_, ?_⟩
      · rw [List.getLast?_eq_getElem?] at hn
        rw [List.length_map, List.getElem?_map, hn]; rfl
      · have R1 : Rel (some (S, L)) δ { st with cells := st.cells.dropLast } σ (upd H L (.lst (st.cells.map V.int).dropLast)) B F := R.scell ⟨(upd_ne sa.nu).trans sa.1, by rw [upd_same, List.map_dropLast]⟩
        obtain ⟨sa1, _⟩ := R1.sat S L rfl
        refine ⟨.ref S, hS, S, _, rfl, DPut.k (k := .inr (Str.ofString "left")) sa1.1 (by show 4 < sizeLine; decide), ?_⟩
        refine x σ _ B (.refl _) (R1.sput ⟨?_, (upd_ne sa1.nu.symm).trans sa1.2⟩)
        rw [upd_same]
        exact congrArg some (congrArg HO.dK (srcK_put L { st with cells := st.cells.dropLast } .left n))
    · cases ea'

/-! ### expressions that change an owned slot: xs.pop(e) in a comprehension -/
abbrev Fy := List Slot → M (D × List Slot)
def tX (os : Option (Addr × Addr)) (f : Fy) : TE := fun σ H Q => ∃ δ st B F d st', Rel os δ st σ H B F ∧ f δ st = some (d, st') ∧ ∀ v H' B', Same B B' → Rel os d.2 st' σ H' B' F → Rp B' v d.1 → Q v H'
def popD (i : Nat) (k : D) (δ : List Slot) : Option (D × List Slot) := match δ[i]?, k with
  | some (.own (.list ds)), .int n => if 0 ≤ n ∧ n < 2 ^ 63 then (ds[n.toNat]?).map fun d => (d, δ.set i (.own (.list (ds.eraseIdx n.toNat)))) else none
  | _, _ => none
def fPop (i : Nat) (f : Fx D) : Fy := fun δ => mb (f δ) fun k => ml (popD i k δ)
theorem epop {i : Nat} {o : Expr} (ho : PE X o (tVar i)) (he : PE X e (tS os f))
    (hbase : attributeBase o "pop" X.env (eval o X.env) = eval o X.env := by rfl)
    (hfew : ((backTo cpos (starEach [e] X.env)).all (fun x => !x.1) && (backToKw cpos (keywordEach [] X.env)).all (fun x => x.1.isSome)
      && decide ([e].length + ([] : List Keyword).length + (if ([] : List Keyword).isEmpty then 0 else 1) < 30)) = true := by rfl)
    (hline : (apos.endLine == cpos.line) = true := by rfl) (hs : starEach [e] X.env = (false, eval e X.env) :: starEach [] X.env := by rfl) (hplain : (backTo cpos (starEach [] X.env)).any (·.1) = false := by rfl) :
    PE X (.Call (.Attribute o "pop" apos) [e] [] cpos) (tX os (fPop i f)) :=
  (pe_bm PySem.F.plainAttrs_list PySem.F.slot_list_pop PySem.F.type_list_pop mt_popAt ho (pa_cons he pa_nil hs) hbase hfew hline hs hplain).wk fun σ H Q ⟨δ, st, B, F, d, st', R, ea, x⟩ => by
    obtain ⟨k, s1, e1, eb⟩ := mb_some ea
    obtain ⟨e2, rfl⟩ := ml_some eb
    unfold popD at e2
    split at e2
    · next ds n hsl =>
      split at e2
      · next hn =>
        obtain ⟨d0, h0, rfl⟩ := Option.map_eq_some_iff.mp e2
        obtain ⟨p, ep, ⟨xs, hx, rx⟩, _⟩ := R.own i _ hsl
        refine ⟨.ref p, ep, .inl ⟨rfl, _, .of hx⟩, δ, st, B, F, _, _, R, e1, fun v H1 B1 l1 R1 r1 => ?_⟩
        cases r1
        obtain ⟨p', ep', ⟨ys, hy, ry⟩, _⟩ := R1.own i _ hsl
        have ep2 : p' = p := by rw [ep] at ep'; cases ep'; rfl
        subst ep2
        obtain ⟨v, hv, rv⟩ := ry.get h0
        refine ⟨p', ys, n, n.toNat, v, rfl, rfl, hy, by omega, hn.2, ?_, hv, ?_⟩
        · have hl : n.toNat < ys.length := (List.getElem?_eq_some_iff.mp hv).1
          unfold seqIndex?
          simp only
          rw [if_neg (by omega : ¬ n < 0), if_pos (by simp; omega)]
        · exact x v _ B1 l1 (R1.write hsl ep ⟨_, upd_same, ry.eraseIdx _⟩) rv
      · cases e2
    · cases e2
def lcGoX (g : D → List Slot → Option (List Slot)) (t : Fx Bool) (e : Fy) (vs : List Nat) : List Slot → List D → M (List D)
  | _, [] => mp []
  | δ, d :: ds => mb (ml (g d δ)) fun δ1 => mb (t δ1) fun c => if c = true then mb (e δ1) fun r => mb (lcGoX g t e vs (wipeS r.2 vs) ds) fun rs => mp (r.1 :: rs) else lcGoX g t e vs (wipeS δ1 vs) ds
def lcX (fi : Fx (List D)) (g : D → List Slot → Option (List Slot)) (t : Fx Bool) (e : Fy) (vs : List Nat) : Fx Flow := fun δ => mb (fi δ) fun ds => mb (lcGoX g t e vs (wipeS δ vs) ds) fun rs => mp (.rt (.list rs))
variable {fi : Fx (List D)} {is : List Nat} {gt : D → List Slot → Option (List Slot)} {tt : Fx Bool} {ef : Fy}
theorem Rel.bare' {os : Option (Addr × Addr)} {δ : List Slot} {st : Src} {σ : L2.St} {H B F : Hp} (R : Rel os δ st σ H B F) : Rel os [] st [] H B F := R.bare
theorem sretX {vs : List Nat} {E : Ends} {σ : L2.St} {H : Hp} [G : Gok is gt] (his : ∀ i ∈ is, i ∈ vs) (q : tB os (lcX fi gt tt ef vs) E σ H) : tRet (tLc (tI os fi) (tG os is gt) (tT os tt) (tX os ef) vs) E σ H := by
  obtain ⟨δ, st, B, F, fl, st', R, e, q⟩ := q
  obtain ⟨ds, s1, e1, e⟩ := mb_some e
  obtain ⟨rs, s2, e2, e⟩ := mb_some e
  obtain ⟨rfl, rfl⟩ := mp_some e
  refine ⟨δ, st, B, F, ds, s1, R, e1, fun J H1 B1 l1 R1 it Da hD => ?_⟩
  have nD := R1.new hD
  refine ⟨fun i m H => m = ds.length - i ∧ i ≤ ds.length ∧ ∃ δc s B acc done rest, Rel os δc s (wipe σ vs) H B (upd F Da (.lst acc)) ∧ Same B1 B ∧ RpA B acc done ∧ acc.length ≤ i ∧ lcGoX gt tt ef vs δc (ds.drop i) s = some (rest, st') ∧ rs = done ++ rest,
    ⟨_, rfl, Nat.zero_le _, wipeS δ vs, s1, B1, [], [], rs, ?_, .refl _, .nil, Nat.le_refl _, e2, rfl⟩, ?_⟩
  · have R1' := (R1.wipe vs).grow (Gr.own (o := .lst []) R1.sub hD)
    exact R1'.aside ⟨nD.b, nD.f, (fun i d ei z => by
      obtain ⟨p, z1, o, _⟩ := (R1.wipe vs).own i d ei
      rw [z] at z1
      cases z1
      obtain ⟨x, hx⟩ := o.there
      rw [hD] at hx
      cases hx), nD.s⟩ upd_same
  · rintro i m H2 ⟨rfl, hi, δc, s, B2, acc, done, rest, R2, l2, ra, hacc, e3, erS⟩
    have hfD : F Da = none := nD.f
    by_cases hlt : i < ds.length
    · refine .inr ⟨it.go i H2 (l2.trans R2.sub) hlt, fun H' => i + 1 ≤ ds.length ∧ ∃ δc s B acc done rest, Rel os δc s (wipe σ vs) H' B (upd F Da (.lst acc)) ∧ Same B1 B ∧ RpA B acc done ∧ acc.length ≤ i + 1 ∧ lcGoX gt tt ef vs δc (ds.drop (i + 1)) s = some (rest, st') ∧ rs = done ++ rest,
        fun H' h => ⟨ds.length - (i + 1), by omega, rfl, h⟩, fun y H3 hy => ?_⟩
      obtain ⟨d, B3, ed, g3, r3⟩ := it.yld i H2 B2 y H3 l2 R2.sub hlt hy
      rw [drop_cons ed] at e3
      unfold lcGoX at e3
      obtain ⟨δ3, s3, e4, e5'⟩ := mb_some e3
      obtain ⟨m4, rfl⟩ := ml_some e4
      obtain ⟨c, s5, e5, e6⟩ := mb_some e5'
      refine ⟨_, _, B3, _, d, δ3, R2.grow g3, r3, m4, fun σ4 H4 B4 l4 R4 k4 => ?_⟩
      have hw : wipe σ4 vs = wipe σ vs := wipe_same (k4.1.trans (wipe_length _ _)) fun j hj => k4.2 j fun z => hj (his j z)
      refine ⟨hw, ?_⟩
      have l24 : Same B2 B4 := g3.leB.trans l4
      refine ⟨δ3, _, B4, _, c, s5, R4, e5, fun H5 B5 l5 R5 => ?_⟩
      show if c = true then _ else _
      by_cases hc : c = true
      · rw [if_pos hc] at e6 ⊢
        obtain ⟨r, s6, e7, e8⟩ := mb_some e6
        obtain ⟨rs2, s7, e9, e10⟩ := mb_some e8
        obtain ⟨rfl, rfl⟩ := mp_some e10
        refine ⟨δ3, s5, B5, _, r, s6, R5, e7, fun w H6 B6 l6 R6 r6 => ?_⟩
        obtain ⟨_, _, hDa⟩ := R6.back hfD
        have R7 := R6.wipe vs
        rw [hw] at R7
        exact ⟨acc, hDa, Nat.lt_of_le_of_lt hacc (Nat.lt_of_lt_of_le hlt it.small), hlt, wipeS r.2 vs, s6, B6, acc ++ [w], done ++ [r.1], rs2, R7.rewrite hfD, l2.trans (l24.trans (l5.trans l6)), (ra.mono (l24.trans (l5.trans l6))).append (.cons r6 .nil), (by rw [List.length_append, List.length_singleton]; omega), e9, (by rw [erS, List.append_assoc]; rfl)⟩
      · rw [if_neg hc] at e6 ⊢
        have R7 := R5.wipe vs
        rw [hw] at R7
        exact ⟨hlt, wipeS δ3 vs, s5, B5, acc, done, rest, R7, l2.trans (l24.trans l5), ra.mono (l24.trans l5), Nat.le_succ_of_le hacc, e6, erS⟩
    · have hd : ds.drop i = [] := List.drop_eq_nil_of_le (by omega)
      rw [hd] at e3
      unfold lcGoX at e3
      obtain ⟨rfl, rfl⟩ := mp_some e3
      refine .inl ⟨it.stop i H2 (l2.trans R2.sub) (by omega), ?_⟩
      obtain ⟨R3, n3, h3⟩ := R2.back hfD
      rw [List.append_nil] at erS
      subst erS
      have R4 := R3.bare
      obtain ⟨B5, l5, R5, r5⟩ := R4.freeze (p := Da) (d := .list rs) ⟨n3.b, n3.f, (fun i d z => by simp at z), n3.s⟩ ⟨acc, h3, ra⟩
      exact q _ H2 B5 (l1.trans (l2.trans l5)) R5 r5
end
end VL

set_option maxHeartbeats 1000000
/-! U13: zip(a, b, strict=True) of two tuples of one length, at the library's level. -/
namespace VL
open PySem PySem.Spec PyProof.Rows L2 RZ
abbrev IsZipS (h : Heap) (z TI TO : Addr) (f0 : Value) : Prop :=
  h.get? z = some { cls := .type "zip", dict := none, data := .fields #[f0, .bool false, .bool true, .ref TI, .ref TO], slots := #[] }
section
variable {prog : Program} {w : World} {A : Around} {E : Value → Shared → Prop} {s : Shared}
theorem noe_item {it l : Addr} {i : Nat} {items} {x : Value} {Q : Option Value → Shared → Prop} (hit : s.heap.IsTupleIter it l i) (hl : s.heap.IsTuple l items) (hx : items[i]? = some x)
    (hQ : ∀ h', h'.IsTupleIter it l (i + 1) → Heap.SameBut it s.heap h' → Q (some x) { s with heap := h' }) : wpAny (model prog w) A (Builtin.SmallTypes.nextOrEnd (.ref it)) Q E s := by
  unfold Builtin.SmallTypes.nextOrEnd
  exact wpAny_bind (wpAny_attempt (nextOf_tuple_item hit hl hx fun h' a b => wpAny_pure (hQ h' a b)))
theorem noe_end {it l : Addr} {i : Nat} {items} {Q : Option Value → Shared → Prop} (hh : A.handled = none) (hit : s.heap.IsTupleIter it l i) (hl : s.heap.IsTuple l items) (hx : items[i]? = none)
    (hQ : ∀ h', Heap.ExtBut it s.heap h' → Q none { s with heap := h' }) : wpAny (model prog w) A (Builtin.SmallTypes.nextOrEnd (.ref it)) Q E s := by
  unfold Builtin.SmallTypes.nextOrEnd
  refine wpAny_bind (wpAny_attempt (nextOf_tuple_end hh hit hl hx fun h' e hs he => ?_))
  obtain ⟨o, ho, hc⟩ := he
  exact wpAny_bind (wpAny_isInstance (T := "StopIteration") (b := true) ⟨o, ho, hc⟩ isSubtype_stop (wpAny_pure (hQ h' hs)))
theorem zipS_item {z TI TO i1 i2 l1 l2 : Addr} {k1 k2 : Nat} {xs ys : Array Value} {x y a b : Value} {Q : Value → Shared → Prop} (D : ZipApart z TI TO i1 i2 l1 l2)
    (hz : IsZipS s.heap z TI TO .none) (hTI : IsPair s.heap TI (.ref i1) (.ref i2)) (hTO : IsPair s.heap TO a b)
    (h1 : s.heap.IsTupleIter i1 l1 k1) (h2 : s.heap.IsTupleIter i2 l2 k2) (hl1 : s.heap.IsTuple l1 xs) (hl2 : s.heap.IsTuple l2 ys) (hx : xs[k1]? = some x) (hy : ys[k2]? = some y)
    (hQ : ∀ h', IsZipS h' z TI TO (rawInt s.heap.objs.size) → IsPair h' TO x y → h'.IsTupleIter i1 l1 (k1 + 1) → h'.IsTupleIter i2 l2 (k2 + 1) → IsPair h' s.heap.objs.size x y → h'.objs.size = s.heap.objs.size + 1 →
      (∀ c o, c ≠ z → c ≠ TO → c ≠ i1 → c ≠ i2 → s.heap.get? c = some o → h'.get? c = some o) → Q (.ref s.heap.objs.size) { s with heap := h' }) :
    wpAny (model prog w) A (Builtin.«zip.__next__» ⟨[.ref z], []⟩) (fun fin s' => ∃ v, fin = .done (.ret v) ∧ Q v s') E s := by
  show wpAny _ _ (field (.ref z) 2 >>= _) _ _ _
  refine wpAny_bind (wpAny_field hz rfl (x := .bool true) rfl ?_)
  show wpAny _ _ (field (.ref z) 3 >>= _) _ _ _
  refine wpAny_bind (wpAny_field hz rfl (x := .ref TI) rfl ?_)
  refine wpAny_bind (wpAny_seqItems hTI rfl ?_)
  show wpAny _ _ (Builtin.SmallTypes.ownedTupleIsFree (.ref z) >>= _) _ _ _
  refine wpAny_bind ?_
  unfold Builtin.SmallTypes.ownedTupleIsFree
  refine wpAny_bind (wpAny_field hz rfl (x := .none) rfl (wpAny_pure ?_))
  simp only [if_true]
  refine wpAny_bind (wpAny_rule ?_)
  refine wpAny_bind (wpAny_field hz rfl (x := .ref TO) rfl ?_)
  refine wpAny_bind (wpAny_setField_rec hz (by simp) fun h₁ hz₁ hs₁ => ?_)
  replace hz₁ : IsZipS h₁ z TI TO .ellipsis := hz₁
  refine wpAny_bind ?_
  simp only [List.zipIdx_cons, List.zipIdx_nil, List.forIn_cons, List.forIn_nil]
  refine wpAny_bind (wpAny_bind (wpAny_onRaise ?_))
  show wpAny _ _ (Builtin.SmallTypes.nextOrEnd (.ref i1)) _ _ _
  refine noe_item (h1.extBut hs₁.extBut D.i1z) (hl1.extBut hs₁.extBut D.l1z) hx fun h₂ h1₂ hs₂ => ?_
  have hTO₂ : IsPair h₂ TO a b := hs₂.extBut _ _ D.TOi1 (hs₁.extBut _ _ D.TOz hTO)
  refine wpAny_bind (wpAny_seqItems hTO₂ rfl ?_)
  refine wpAny_bind (wpAny_updateSeq_pair hTO₂ fun h₃ hTO₃ hs₃ => ?_)
  replace hTO₃ : IsPair h₃ TO x b := hTO₃
  refine wpAny_bind (wpAny_letGo (wpAny_pure ?_))
  refine wpAny_bind (wpAny_bind (wpAny_onRaise ?_))
  show wpAny _ _ (Builtin.SmallTypes.nextOrEnd (.ref i2)) _ _ _
  refine noe_item (((h2.extBut hs₁.extBut D.i2z).extBut hs₂.extBut D.i12.symm).extBut hs₃.extBut D.TOi2.symm)
    (((hl2.extBut hs₁.extBut D.l2z).extBut hs₂.extBut D.l2i1).extBut hs₃.extBut D.l2TO) hy fun h₄ h2₄ hs₄ => ?_
  have hTO₄ : IsPair h₄ TO x b := hs₄.extBut _ _ D.TOi2 hTO₃
  refine wpAny_bind (wpAny_seqItems hTO₄ rfl ?_)
  refine wpAny_bind (wpAny_updateSeq_pair hTO₄ fun h₅ hTO₅ hs₅ => ?_)
  replace hTO₅ : IsPair h₅ TO x y := hTO₅
  refine wpAny_bind (wpAny_letGo (wpAny_pure (wpAny_pure ?_)))
  refine wpAny_bind (wpAny_seqItems hTO₅ rfl ?_)
  refine wpAny_bind (wpAny_newTuple ?_)
  have hsz : h₅.objs.size = s.heap.objs.size := by rw [hs₅.1, hs₄.1, hs₃.1, hs₂.1, hs₁.1]
  have hz₅ : IsZipS h₅ z TI TO .ellipsis := hs₅.extBut _ _ D.TOz.symm (hs₄.extBut _ _ D.i2z.symm (hs₃.extBut _ _ D.TOz.symm (hs₂.extBut _ _ D.i1z.symm hz₁)))
  have hk₅ : ∀ c o, c ≠ z → c ≠ TO → c ≠ i1 → c ≠ i2 → s.heap.get? c = some o → h₅.get? c = some o := fun c o c1 c2 c3 c4 e =>
    hs₅.extBut _ _ c2 (hs₄.extBut _ _ c4 (hs₃.extBut _ _ c2 (hs₂.extBut _ _ c3 (hs₁.extBut _ _ c1 e))))
  have h1₅ : h₅.IsTupleIter i1 l1 (k1 + 1) := ((h1₂.extBut hs₃.extBut D.TOi1.symm).extBut hs₄.extBut D.i12).extBut hs₅.extBut D.TOi1.symm
  have h2₅ : h₅.IsTupleIter i2 l2 (k2 + 1) := h2₄.extBut hs₅.extBut D.TOi2.symm
  have hzlt : z < h₅.objs.size := Heap.lt_size hz₅
  show wpAny _ _ (Builtin.SmallTypes.ownedTupleHandOut (.ref z) (.ref h₅.objs.size) >>= _) _ _ _
  refine wpAny_bind ?_
  unfold Builtin.SmallTypes.ownedTupleHandOut
  have hz₆ : IsZipS (h₅.push { cls := .type "tuple", data := .seq #[x, y] }) z TI TO .ellipsis := Heap.get?_push_of_some _ hz₅
  refine wpAny_bind (wpAny_setField_rec hz₆ (by simp) fun h₇ hz₇ hs₇ => ?_)
  replace hz₇ : IsZipS h₇ z TI TO (rawInt h₅.objs.size) := hz₇
  refine wpAny_setField_rec hz₇ (by simp) fun h₈ hz₈ hs₈ => ?_
  replace hz₈ : IsZipS h₈ z TI TO (rawInt h₅.objs.size) := hz₈
  have up : ∀ c o, c ≠ z → h₅.get? c = some o → h₈.get? c = some o := fun c o c1 e => hs₈.extBut _ _ c1 (hs₇.extBut _ _ c1 (Heap.get?_push_of_some _ e))
  have hT₈ : IsPair h₈ h₅.objs.size x y := hs₈.extBut _ _ (Nat.ne_of_gt hzlt) (hs₇.extBut _ _ (Nat.ne_of_gt hzlt) (Heap.get?_push_size _ rfl))
  have hz8 : h₈.objs.size = h₅.objs.size + 1 := by rw [hs₈.1, hs₇.1, Heap.size_push]
  rw [hsz] at hz₈ hT₈ hz8
  refine wpAny_pure ⟨_, rfl, ?_⟩
  show Q (.ref h₅.objs.size) _
  rw [hsz]
  exact hQ h₈ hz₈ (up _ _ D.TOz hTO₅) (h1₅.at fun o e => up _ o D.i1z e) (h2₅.at fun o e => up _ o D.i2z e) hT₈ hz8 fun c o c1 c2 c3 c4 e => up c o c1 (hk₅ c o c1 c2 c3 c4 e)
/-- a new StopIteration is raised -/
theorem stop_raise {α : Type} {Q : α → Shared → Prop} (hh : A.handled = none) (hE : ∀ h' e, (∀ c o, s.heap.get? c = some o → h'.get? c = some o) → (∃ o, h'.get? e = some o ∧ o.cls = .type "StopIteration") → E (.ref e) { s with heap := h' }) :
    wpAny (model prog w) A (Builtin.SmallTypes.stopIteration (α := α)) Q E s := by
  unfold Builtin.SmallTypes.stopIteration
  refine wpAny_bind ?_
  simp only [newExc, newTuple]
  refine wpAny_bind (wpAny_newObj_type ?_ (by size_fits))
  refine wpAny_bind (m := firstArgMember _ _) (wpAny_of_eq (a := Value.none) (by first | rfl | (simp only [firstArgMember]; rfl)) ?_)
  refine wpAny_newObj_type ?_ (by size_fits)
  simp only [raiseNew]
  refine wpAny_bind (wpAny_handled ?_)
  first | rw [show A.in1.handled = none from hh] | rw [hh]
  refine wpAny_bind (wpAny_pure (wpAny_throw ?_))
  exact hE _ _ (fun c o e => Heap.get?_push_of_some _ (Heap.get?_push_of_some _ e)) ⟨_, Heap.get?_push_size _ rfl, rfl⟩
theorem zipS_end {z TI TO i1 i2 l1 l2 : Addr} {k1 k2 : Nat} {xs ys : Array Value} {a b : Value} {Q : Fin → Shared → Prop} (hh : A.handled = none) (D : ZipApart z TI TO i1 i2 l1 l2)
    (hz : IsZipS s.heap z TI TO .none) (hTI : IsPair s.heap TI (.ref i1) (.ref i2)) (hTO : IsPair s.heap TO a b)
    (h1 : s.heap.IsTupleIter i1 l1 k1) (h2 : s.heap.IsTupleIter i2 l2 k2) (hl1 : s.heap.IsTuple l1 xs) (hl2 : s.heap.IsTuple l2 ys) (hx : xs[k1]? = none) (hy : ys[k2]? = none)
    (hE : ∀ h' e, (∀ c o, c ≠ z → c ≠ TO → c ≠ i1 → c ≠ i2 → s.heap.get? c = some o → h'.get? c = some o) → (∃ o, h'.get? e = some o ∧ o.cls = .type "StopIteration") → E (.ref e) { s with heap := h' }) :
    wpAny (model prog w) A (Builtin.«zip.__next__» ⟨[.ref z], []⟩) Q E s := by
  show wpAny _ _ (field (.ref z) 2 >>= _) _ _ _
  refine wpAny_bind (wpAny_field hz rfl (x := .bool true) rfl ?_)
  show wpAny _ _ (field (.ref z) 3 >>= _) _ _ _
  refine wpAny_bind (wpAny_field hz rfl (x := .ref TI) rfl ?_)
  refine wpAny_bind (wpAny_seqItems hTI rfl ?_)
  show wpAny _ _ (Builtin.SmallTypes.ownedTupleIsFree (.ref z) >>= _) _ _ _
  refine wpAny_bind ?_
  unfold Builtin.SmallTypes.ownedTupleIsFree
  refine wpAny_bind (wpAny_field hz rfl (x := .none) rfl (wpAny_pure ?_))
  simp only [if_true]
  refine wpAny_bind (wpAny_rule ?_)
  refine wpAny_bind (wpAny_field hz rfl (x := .ref TO) rfl ?_)
  refine wpAny_bind (wpAny_setField_rec hz (by simp) fun h₁ hz₁ hs₁ => ?_)
  replace hz₁ : IsZipS h₁ z TI TO .ellipsis := hz₁
  refine wpAny_bind ?_
  simp only [List.zipIdx_cons, List.zipIdx_nil, List.forIn_cons, List.forIn_nil]
  refine wpAny_bind (wpAny_bind (wpAny_onRaise ?_))
  show wpAny _ _ (Builtin.SmallTypes.nextOrEnd (.ref i1)) _ _ _
  refine noe_end hh (h1.extBut hs₁.extBut D.i1z) (hl1.extBut hs₁.extBut D.l1z) hx fun h₂ hs₂ => ?_
  have hz₂ : IsZipS h₂ z TI TO .ellipsis := hs₂ _ _ D.i1z.symm hz₁
  refine wpAny_bind (wpAny_setField_rec hz₂ (by simp) fun h₃ hz₃ hs₃ => ?_)
  have k3 : ∀ c o, c ≠ z → c ≠ i1 → s.heap.get? c = some o → h₃.get? c = some o := fun c o c1 c2 e => hs₃.extBut _ _ c1 (hs₂ _ _ c2 (hs₁.extBut _ _ c1 e))
  have q2 : ∀ {Q' : Option Value → Shared → Prop}, (∀ h', (∀ c o, c ≠ z → c ≠ TO → c ≠ i1 → c ≠ i2 → s.heap.get? c = some o → h'.get? c = some o) → Q' none { s with heap := h' }) →
      wpAny (model prog w) A (Builtin.SmallTypes.nextOrEnd (.ref i2)) Q' E { s with heap := h₃ } := fun hQ =>
    noe_end (s := { s with heap := h₃ }) hh (h2.at fun o e => k3 _ o D.i2z D.i12.symm e) (hl2.at fun o e => k3 _ o D.l2z D.l2i1 e) hy fun h₄ hs₄ => hQ h₄ fun c o c1 _ c3 c4 e => hs₄ _ _ c4 (k3 _ _ c1 c3 e)
  refine wpAny_bind ?_
  show wpAny _ _ (forIn _ _ _ >>= _) _ _ _
  refine wpAny_bind ?_
  simp only [List.drop_succ_cons, List.drop_zero, List.zipIdx_cons, List.zipIdx_nil, List.forIn_cons, List.forIn_nil]
  refine wpAny_bind (wpAny_bind (q2 fun h₄ k4 => ?_))
  rw [if_neg (by simp)]
  refine wpAny_pure (wpAny_pure ?_)
  refine wpAny_bind (wpAny_rule ?_)
  refine stop_raise hh fun h₅ e k5 he => ?_
  exact hE h₅ e (fun c o c1 c2 c3 c4 x => k5 _ _ (k4 c o c1 c2 c3 c4 x)) he
theorem next_zipS_item {z TI TO i1 i2 l1 l2 : Addr} {k1 k2 : Nat} {xs ys : Array Value} {x y a b : Value} {Q : Option Value → Shared → Prop} (D : ZipApart z TI TO i1 i2 l1 l2)
    (hz : IsZipS s.heap z TI TO .none) (hTI : IsPair s.heap TI (.ref i1) (.ref i2)) (hTO : IsPair s.heap TO a b)
    (h1 : s.heap.IsTupleIter i1 l1 k1) (h2 : s.heap.IsTupleIter i2 l2 k2) (hl1 : s.heap.IsTuple l1 xs) (hl2 : s.heap.IsTuple l2 ys) (hx : xs[k1]? = some x) (hy : ys[k2]? = some y)
    (hQ : ∀ h', IsZipS h' z TI TO (rawInt s.heap.objs.size) → IsPair h' TO x y → h'.IsTupleIter i1 l1 (k1 + 1) → h'.IsTupleIter i2 l2 (k2 + 1) → IsPair h' s.heap.objs.size x y → h'.objs.size = s.heap.objs.size + 1 →
      (∀ c o, c ≠ z → c ≠ TO → c ≠ i1 → c ≠ i2 → s.heap.get? c = some o → h'.get? c = some o) → Q (some (.ref s.heap.objs.size)) { s with heap := h' }) :
    wpAny (model prog w) A (pyNext (.ref z)) Q E s := by
  have hT : s.TypeIs (.ref z) "zip" := ⟨_, hz, rfl⟩
  unfold pyNext
  exact wpAny_bind (wpAny_attempt (wpAny_callSpecial?_slot (name := Str.ofString "__next__") hT F.slot_zip_next (wpAny_call_entry F.slot_zip_next hT F.entry_zip_next
    (zipS_item D hz hTI hTO h1 h2 hl1 hl2 hx hy fun h' a1 a2 a3 a4 a5 a6 a7 => wpAny_pure (hQ h' a1 a2 a3 a4 a5 a6 a7)) (F.args_zip_next_1 _))))
theorem next_zipS_end {z TI TO i1 i2 l1 l2 : Addr} {k1 k2 : Nat} {xs ys : Array Value} {a b : Value} {Q : Option Value → Shared → Prop} (hh : A.handled = none) (D : ZipApart z TI TO i1 i2 l1 l2)
    (hz : IsZipS s.heap z TI TO .none) (hTI : IsPair s.heap TI (.ref i1) (.ref i2)) (hTO : IsPair s.heap TO a b)
    (h1 : s.heap.IsTupleIter i1 l1 k1) (h2 : s.heap.IsTupleIter i2 l2 k2) (hl1 : s.heap.IsTuple l1 xs) (hl2 : s.heap.IsTuple l2 ys) (hx : xs[k1]? = none) (hy : ys[k2]? = none)
    (hQ : ∀ h', (∀ c o, c ≠ z → c ≠ TO → c ≠ i1 → c ≠ i2 → s.heap.get? c = some o → h'.get? c = some o) → Q none { s with heap := h' }) : wpAny (model prog w) A (pyNext (.ref z)) Q E s := by
  have hT : s.TypeIs (.ref z) "zip" := ⟨_, hz, rfl⟩
  unfold pyNext
  refine wpAny_bind (wpAny_attempt (wpAny_callSpecial?_slot (name := Str.ofString "__next__") hT F.slot_zip_next
    (wpAny_call_entry F.slot_zip_next hT F.entry_zip_next (zipS_end hh D hz hTI hTO h1 h2 hl1 hl2 hx hy fun h' e hk he => ?_) (F.args_zip_next_1 _))))
  obtain ⟨o, ho, hc⟩ := he
  exact wpAny_bind (wpAny_isInstance (T := "StopIteration") (b := true) ⟨o, ho, hc⟩ isSubtype_stop (wpAny_pure (hQ _ hk)))
theorem go_zipS {elts : List Expr} {x1} {pos : Pos} {z TI TO T : Addr} {Q : Unit → Shared → Prop} (hz : IsZipS s.heap z TI TO (rawInt T))
    (hQ : ∀ h', IsZipS h' z TI TO .none → Heap.SameBut z s.heap h' → Q () { s with heap := h' }) : wpAny (model prog w) A (letOwnedTupleGo (.Tuple elts x1 pos) (.ref z) (.ref T)) Q E s := by
  unfold letOwnedTupleGo
  refine wpAny_bind (wpAny_load hz ?_)
  show wpAny _ _ (if (["enumerate", "zip", "dict_itemiterator", "dict_reverseitemiterator", "odict_iterator", "itertools.zip_longest", "itertools.pairwise"].contains "zip" &&
      (#[rawInt T, .bool false, .bool true, .ref TI, .ref TO] : Array Value)[0]? == some (rawInt T)) = true then _ else _) Q E s
  rw [if_pos (by simp)]
  refine wpAny_bind (wpAny_rule ?_)
  show wpAny _ _ (setField (.ref z) 0 .none) Q E s
  exact wpAny_setField_rec hz (by simp) fun h' hz' hs' => hQ h' hz' hs'
theorem iter_zipS {z TI TO : Addr} {f0 : Value} {Q : Value → Shared → Prop} (hz : IsZipS s.heap z TI TO f0) (h : Q (.ref z) s) : wpAny (model prog w) A (pyIter (.ref z)) Q E s := by
  have hT : s.TypeIs (.ref z) "zip" := ⟨_, hz, rfl⟩
  refine wpAny_pyIter_slot hT F.slot_zip_iter (wpAny_call_entry F.slot_zip_iter hT F.entry_zip_iter ?_ (F.args_zip_iter_1 _))
  show wpAny _ _ (ret (.ref z)) _ _ s
  exact wpAny_pure ⟨_, rfl, "zip", _, hT, F.slot_zip_next.lookup, h⟩
end
abbrev zipSH5 (h : Heap) (l1 l2 : Addr) : Heap := (zipTH4 h l1 l2).push { cls := .type "zip", data := .fields #[.none, .bool false, .bool true, .ref (zipTH2 h l1 l2).objs.size, .ref (zipTH3 h l1 l2).objs.size] }
theorem meets_zipS (l1 l2 : Addr) (xs ys : Array Value) :
    Meets (Builtin.«zip.__new__» ⟨[.type "zip", .ref l1, .ref l2], [(Str.ofString "strict", .bool true)]⟩) (fun _ R s => s.heap.IsTuple l1 xs ∧ s.heap.IsTuple l2 ys ∧
      R (.ok (.ret (.ref (zipTH4 s.heap l1 l2).objs.size))) { s with heap := zipSH5 s.heap l1 l2 }) :=
  .of_wp fun prog w A R s h => by
    obtain ⟨hp, g, d, tk, os⟩ := s; obtain ⟨hl1, hl2, h⟩ := h
    have hsub := sub_zip
    have e1 : (Str.ofString "strict" != ("strict" : Str)) = false := by decide +kernel
    have hL1 : Heap.IsTuple (Shared.heap ⟨hp, g, d, tk, os⟩) l1 xs := hl1
    have hL2 : Heap.IsTuple (Shared.heap ⟨hp.push { cls := .type "tuple_iterator", data := .fields #[.ref l1, .int 0 0] }, g, d, tk, os⟩) l2 ys := Heap.IsTuple.push hl2 _
    wp_walk using wpAny_pyIter_tuple hL1, wpAny_pyIter_tuple hL2
    exact ⟨_, rfl, h⟩
theorem typeCall_zipS (a b : Value) : checkTypeCall "zip" ⟨[a, b], [(Str.ofString "strict", .bool true)]⟩ = pure () := by kernel_rfl
theorem newCall_zipS (a b : Value) : checkBuiltinCall "zip.__new__" ⟨[.type "zip", a, b], [(Str.ofString "strict", .bool true)]⟩ = pure () := by kernel_rfl
theorem args_zipS (obj a b : Value) : argsOk "object.__init__" ⟨[obj, a, b], [(Str.ofString "strict", .bool true)]⟩ := by unfold argsOk; kernel_rfl
section
variable {prog : Program} {w : World} {A : Around} {E : Value → Shared → Prop} {s : Shared}
theorem call_zipS {l1 l2 : Addr} {xs ys : Array Value} {Q : Value → Shared → Prop} (hl1 : s.heap.IsTuple l1 xs) (hl2 : s.heap.IsTuple l2 ys)
    (h : ∀ h', IsZipS h' (s.heap.objs.size + 4) (s.heap.objs.size + 2) (s.heap.objs.size + 3) .none → IsPair h' (s.heap.objs.size + 2) (.ref s.heap.objs.size) (.ref (s.heap.objs.size + 1)) →
      IsPair h' (s.heap.objs.size + 3) .none .none → h'.IsTupleIter s.heap.objs.size l1 0 → h'.IsTupleIter (s.heap.objs.size + 1) l2 0 → h'.objs.size = s.heap.objs.size + 5 →
      (∀ c o, s.heap.get? c = some o → h'.get? c = some o) → Q (.ref (s.heap.objs.size + 4)) { s with heap := h' }) :
    wpAny (model prog w) A (call (.type "zip") [.ref l1, .ref l2] [(Str.ofString "strict", .bool true)]) Q E s := by
  refine callType_newKw F.called_zip (by decide) (typeCall_zipS _ _) (newCall_zipS _ _) (fun obj => args_zipS obj _ _) F.entry_zip_new (meets_zipS l1 l2 xs ys) ⟨hl1, hl2, ?_⟩
  have z1 : (zipTH1 s.heap l1).objs.size = s.heap.objs.size + 1 := Heap.size_push ..
  have z2 : (zipTH2 s.heap l1 l2).objs.size = s.heap.objs.size + 2 := by rw [Heap.size_push, z1]
  have z3 : (zipTH3 s.heap l1 l2).objs.size = s.heap.objs.size + 3 := by rw [Heap.size_push, z2]
  have z4 : (zipTH4 s.heap l1 l2).objs.size = s.heap.objs.size + 4 := by rw [Heap.size_push, z3]
  have z5 : (zipSH5 s.heap l1 l2).objs.size = s.heap.objs.size + 5 := by rw [Heap.size_push, z4]
  have up : ∀ {h : Heap} {o : Obj} {c : Addr} {u : Obj}, h.get? c = some u → (h.push o).get? c = some u := fun e => Heap.get?_push_of_some _ e
  have g5 : (zipSH5 s.heap l1 l2).get? (zipTH4 s.heap l1 l2).objs.size = some _ := Heap.get?_push_size _ rfl
  have g4 : (zipSH5 s.heap l1 l2).get? (zipTH3 s.heap l1 l2).objs.size = some _ := up (Heap.get?_push_size _ rfl)
  have g3 : (zipSH5 s.heap l1 l2).get? (zipTH2 s.heap l1 l2).objs.size = some _ := up (up (Heap.get?_push_size _ rfl))
  have g2 : (zipSH5 s.heap l1 l2).get? (zipTH1 s.heap l1).objs.size = some _ := up (up (up (Heap.get?_push_size _ rfl)))
  have g1 : (zipSH5 s.heap l1 l2).get? s.heap.objs.size = some _ := up (up (up (up (Heap.get?_push_size _ rfl))))
  show _ ∧ _
  rw [z2, z3, z4] at g5
  rw [z1, z2] at g3
  rw [z3] at g4
  rw [z1] at g2
  rw [z4]
  exact ⟨⟨_, g5, rfl⟩, h _ g5 g3 g4 ⟨_, g1, rfl, rfl⟩ ⟨_, g2, rfl, rfl⟩ z5 fun c o x => up (up (up (up (up x))))⟩
end
/-- the tuples at a and b, of one length, item by item -/
def ItzS (K : PySem.W.Frag) (a b : Addr) : It :=
  ⟨fun i H => ∃ (xs ys : List V) (x y : V), SqT K H a xs ∧ SqT K H b ys ∧ xs[i]? = some x ∧ ys[i]? = some y,
    fun i H v H' => ∃ T x y, v = .ref T ∧ H T = none ∧ H' = upd H T (.tup [x, y]) ∧ (∀ xs, SqT K H a xs → xs[i]? = some x) ∧ ∀ ys, SqT K H b ys → ys[i]? = some y,
    fun i H => ∃ xs ys : List V, SqT K H a xs ∧ SqT K H b ys ∧ xs.length ≤ i ∧ ys.length ≤ i⟩
theorem turn_zipS {P : Program} {w : World} {K : PySem.W.Frag} {elts : List Expr} {kk : Nat} {tpos : Pos} {a b z TI TO i1 i2 : Addr} (D : ZipApart z TI TO i1 i2 a b) :
    Turn P w K (.Tuple elts kk tpos) (ItzS K a b) [z, TI, TO, i1, i2] z (fun i h => IsZipS h z TI TO .none ∧ IsPair h TI (.ref i1) (.ref i2) ∧ (∃ x y, IsPair h TO x y) ∧ h.IsTupleIter i1 a i ∧ h.IsTupleIter i2 b i) where
  mem := by simp
  obj := fun i h st c hc => by
    obtain ⟨hz, hTI, ⟨x, y, hTO⟩, ⟨o1, e1, _, d1⟩, ⟨o2, e2, _, d2⟩⟩ := st
    have e' : c = z ∨ c = TI ∨ c = TO ∨ c = i1 ∨ c = i2 := by simpa using hc
    rcases e' with rfl | rfl | rfl | rfl | rfl
    · exact ⟨_, hz, fun v q => nomatch q⟩
    · exact ⟨_, hTI, fun v q => nomatch q⟩
    · exact ⟨_, hTO, fun v q => nomatch q⟩
    · exact ⟨o1, e1, fun v q => by rw [d1] at q; cases q⟩
    · exact ⟨o2, e2, fun v q => by rw [d2] at q; cases q⟩
  keep := fun i h h' st k => by
    obtain ⟨hz, hTI, ⟨x, y, hTO⟩, h1, h2⟩ := st
    exact ⟨k z (by simp) _ hz, k TI (by simp) _ hTI, ⟨x, y, k TO (by simp) _ hTO⟩, h1.at fun o q => k i1 (by simp) o q, h2.at fun o q => k i2 (by simp) o q⟩
  item := by
    intro X hP hw hK hc i pins s σ H E I hf st hg
    subst hP hw hK
    obtain ⟨hz, hTI, ⟨x0, y0, hTO⟩, h1, h2⟩ := st
    obtain ⟨xs, ys, x, y, hqx, hqy, hx, hy⟩ := hg
    obtain ⟨its, rv, p, _⟩ := I.tuple hqx
    obtain ⟨its2, rv2, p2, _⟩ := I.tuple hqy
    obtain ⟨u, hu, ru⟩ := rv.get hx
    obtain ⟨u2, hu2, ru2⟩ := rv2.get hy
    have hzl : z < s.heap.objs.size := Heap.lt_size hz
    refine next_zipS_item D hz hTI hTO h1 h2 p p2 (x := u) (y := u2) (by simpa using hu) (by simpa using hu2) fun h' z' TO' h1' h2' hT hsz hk => ?_
    refine ⟨_, rfl, go_zipS (s := { s with heap := h' }) z' fun h'' z'' sb => ?_⟩
    have hT2 : h''.get? s.heap.objs.size = some { cls := .type "tuple", data := .seq #[u, u2] } := (sb.2 _ (Nat.ne_of_gt hzl)).trans hT
    have new : ObjOk X.prog X.w (upd H s.heap.objs.size (.tup [x, y])) h'' s.heap.objs.size (.tup [x, y]) :=
      ⟨by show 2 ≤ sizeLine; decide, [u, u2], .cons ru (.cons ru2 .nil), ⟨_, hT2, rfl, _, rfl⟩⟩
    have I1 : Inv X pins σ (upd H s.heap.objs.size (.tup [x, y])) { s with heap := h'' } :=
      I.turnedNew (t' := s.toks) (ch := [z, TI, TO, i1, i2]) (fun c o hb q => (sb.2 c (fun q' => hb (by simp [q']))).trans (hk c o (fun q' => hb (by simp [q'])) (fun q' => hb (by simp [q'])) (fun q' => hb (by simp [q'])) (fun q' => hb (by simp [q'])) q)) hf (Nat.le_refl _) new
    refine ⟨.ref s.heap.objs.size, _, I1, rfl, ⟨_, x, y, rfl, I.hok.fresh (Nat.le_refl _), rfl, fun l hl => by rw [I.tuple_inj hl hqx]; exact hx, fun l hl => by rw [I.tuple_inj hl hqy]; exact hy⟩, ⟨z'', ?_, ⟨u, u2, ?_⟩, ?_, ?_⟩, fun c hcm => ?_⟩
    · exact (sb.2 _ D.TIz).trans (hk _ _ D.TIz D.TITO D.TIi1 D.TIi2 hTI)
    · exact (sb.2 _ D.TOz).trans TO'
    · exact h1'.at fun o q => (sb.2 _ D.i1z).trans q
    · exact h2'.at fun o q => (sb.2 _ D.i2z).trans q
    · have hlt : c < s.heap.objs.size := by
        have e' : c = z ∨ c = TI ∨ c = TO ∨ c = i1 ∨ c = i2 := by simpa using hcm
        rcases e' with rfl | rfl | rfl | rfl | rfl
        · exact hzl
        · exact Heap.lt_size hTI
        · exact Heap.lt_size hTO
        · obtain ⟨_, e1, _⟩ := h1; exact Heap.lt_size e1
        · obtain ⟨_, e2, _⟩ := h2; exact Heap.lt_size e2
      rw [upd_ne (Nat.ne_of_lt hlt)]
      exact (hf c hcm).1
  done := by
    intro X hP hw hK hc i pins s σ H E I hf st hg
    subst hP hw hK
    obtain ⟨hz, hTI, ⟨x0, y0, hTO⟩, h1, h2⟩ := st
    obtain ⟨xs, ys, hqx, hqy, hend1, hend2⟩ := hg
    obtain ⟨its, rv, p, _⟩ := I.tuple hqx
    obtain ⟨its2, rv2, p2, _⟩ := I.tuple hqy
    have l1 := rv.length
    have l2 := rv2.length
    exact next_zipS_end (I.ok.hd hc) D hz hTI hTO h1 h2 p p2 (by simp; omega) (by simp; omega) fun h' hk => ⟨rfl, I.turnedL (t' := s.toks) (ch := [z, TI, TO, i1, i2]) (fun c o hb q =>
      hk c o (fun q' => hb (by simp [q'])) (fun q' => hb (by simp [q'])) (fun q' => hb (by simp [q'])) (fun q' => hb (by simp [q'])) q) hf⟩
  self := fun A i s Q E st h => iter_zipS st.1 h
theorem callWith_typeKw {M : Model} {A : Around} {E : Value → Shared → Prop} {s : Shared} {pos : Pos} {T : String} {first : List Value} {args : List (Bool × Sem Value)} {keywords : List (Option Str × Sem Value)} {Q : Value → Shared → Prop}
    (hplain : args.any (·.1) = false) (hkw : keywords.any (·.1.isNone) = false)
    (h : wpAny M A (evalArgs (.type T) true args keywords) (fun a s₁ => wpAny M A (call (.type T) (first ++ a.pos) a.kw) Q E s₁) E s) :
    wpAny M A (callWith pos (.type T) first args keywords) Q E s := by
  unfold callWith
  refine wpAny_bind (wpAny_holding (wpAny_mono h (fun a s₁ h₁ => wpAny_bind (wpAny_standAt ?_)) fun _ _ x => x))
  simp only [hplain, hkw, Bool.or_false]
  refine wpAny_bind (wpAny_pure ?_)
  exact wpAny_bind (wpAny_mono h₁ (fun r s₂ hr => wpAny_bind (wpAny_holding (wpAny_point (wpAny_pure hr)))) fun _ _ x => x)
def iZipS (K : PySem.W.Frag) (ta : TA) : TI := fun σ H R => ta σ H fun vs H1 => ∃ a b xs ys, vs = [.ref a, .ref b] ∧ SqT K H1 a xs ∧ SqT K H1 b ys ∧ R (ItzS K a b) H1
theorem pi_zipS {X : Cx} {e e2 : Expr} {ta : TA} {p pos kpos tpos : Pos} {kc : Option Str} {elts : List Expr} {kk : Nat} (hg : Gl X "zip") (hm : X.mg "zip" = none) (ha : PA X [e, e2] ta)
    (he : backTo pos (starEach [e, e2] X.env) = (false, eval e X.env) :: backTo pos (starEach [e2] X.env) := by rfl) (hpl : (backTo pos (starEach [e, e2] X.env)).any (·.1) = false := by rfl) {b : Expr} (hb : PE X b (tC (.bl true)))
    (hall : (backToKw pos (keywordEach [⟨some "strict", b, kpos⟩] X.env)).all (·.1.isSome) = true := by rfl) (hnone : (backToKw pos (keywordEach [⟨some "strict", b, kpos⟩] X.env)).any (·.1.isNone) = false := by rfl)
    (hks : (backToKw pos (keywordEach [⟨some "strict", b, kpos⟩] X.env)).filterMap (·.1) = [Str.ofString "strict"] := by rfl) :
    PI X (.Tuple elts kk tpos) (.Call (.Name "zip" p) [e, e2] [⟨some "strict", b, kpos⟩] pos) (iZipS X.K ta) := by
  refine ⟨fun pins s σ H R I h => ?_⟩
  refine wpAny_Call_Name_kw (ld_blt I hg hm PyProof.Rows.boot_zip (callWith_typeKw hpl hnone ?_))
  rw [he]
  refine evalArgs_kwB hall ?_
  rw [← he]
  have hk : PK X [⟨some "strict", b, kpos⟩] (tCons (tC (.bl true)) tNil) := pk_cons hb pk_nil
  refine thn (ha.run pos pins s σ H _ I h) fun us s1 ⟨vs, H1, I1, r1, a, c, xs, ys, ev, hqx, hqy, q⟩ => ?_
  refine thn (hk.run pos pins s1 σ H1 (fun zs H2 => zs = [.bl true] ∧ H2 = H1) I1 ⟨rfl, rfl⟩) fun ws s2 ⟨zs, H2, I2, r2, ez, eH⟩ => ?_
  subst ev ez eH
  rw [hks]
  cases r1 with
  | cons r rr =>
    cases rr with
    | cons r' rr =>
      cases rr
      cases r
      cases r'
      obtain ⟨u, rfl, ru⟩ := r2.one
      obtain rfl : u = .bool true := ru
      have fresh5 : ∀ c, c ∈ [s2.heap.objs.size + 4, s2.heap.objs.size + 2, s2.heap.objs.size + 3, s2.heap.objs.size, s2.heap.objs.size + 1] → FpOk X pins H2 c := fun c hcm => by
        have hle : s2.heap.objs.size ≤ c := by
          have e' : c = s2.heap.objs.size + 4 ∨ c = s2.heap.objs.size + 2 ∨ c = s2.heap.objs.size + 3 ∨ c = s2.heap.objs.size ∨ c = s2.heap.objs.size + 1 := by simpa using hcm
          omega
        exact I2.fpOk hle (I2.hok.fresh hle)
      obtain ⟨its, rv, p1, _⟩ := I2.tuple hqx
      obtain ⟨its2, rv2, p2, _⟩ := I2.tuple hqy
      obtain ⟨o1, ho1, _⟩ := id p1
      obtain ⟨o2, ho2, _⟩ := id p2
      refine call_zipS (show s2.heap.IsTuple a its.toArray from p1) (show s2.heap.IsTuple c its2.toArray from p2) fun h' hz hTI hTO h1 h2 hsz hk => iter_zipS hz ?_
      have I3 : Inv X pins σ H2 { s2 with heap := h' } := I2.kept (t' := s2.toks) hk
      exact ⟨s2.heap.objs.size + 4, [s2.heap.objs.size + 4, s2.heap.objs.size + 2, s2.heap.objs.size + 3, s2.heap.objs.size, s2.heap.objs.size + 1], _, _, H2, rfl, I3, turn_zipS (PySem.W.ktu_apart s2.heap.objs.size a c (Heap.lt_size ho1) (Heap.lt_size ho2)), ⟨hz, hTI, ⟨_, _, hTO⟩, h1, h2⟩, fresh5, q⟩
end VL

/-! U14: dicts whose keys are tuples; zip as an iterable; sum, extend, pop(); what is never run. -/
namespace VL
open PySem PySem.Spec PyProof.Rows L2 RZ
section
variable {X : Cx} {os : Option (Addr × Addr)} {f g : Fx D} {fr : Fx (List D)} {e : Expr} {es : List Expr} {p pos cpos apos : Pos}
/-! ### {k: v}, k a tuple of ints and texts -/
def QT (Q : VK) (p : Addr) : List (V × V) → Hp → Prop
  | [(x, y)], H2 => H2 p = some (.dT []) ∧ ∃ (b : Addr) (k : List Key), x = .ref b ∧ H2 b = some (.tup (k.map kV)) ∧ Q (.ref p) (upd H2 p (.dT [(k, y)]))
  | _, _ => False
def tDispT (tk tv : TE) : TE := fun σ H Q => ∀ p, H p = none → tPairs [(tk, tv)] σ (upd H p (.dT [])) (QT Q p)
theorem pe_dispT {k v : Expr} {tk tv : TE} (hu : X.A.units + 64 < cLine) (hk : PE X k tk) (hv : PE X v tv) : PE X (.Dict [some k] [v] pos) (tDispT tk tv) := by
  refine ⟨fun pins s σ H Q I q => ?_⟩
  have hn := I.hok.fresh (Nat.le_refl s.heap.objs.size)
  have I1 := I.laid (a := s.heap.objs.size) (o := .dT []) (h' := s.heap.push { cls := .type "dict", data := .dict #[] }) (t' := s.toks) (fun _ _ q => Heap.get?_push_of_some _ q) (Nat.le_refl _) (dt_empty s.heap I.big)
  rw [arm_eval_Dict, zip_pairTrees [some k] [v] X.env pos rfl rfl, dictDisplay_pairs (pairTrees [some k] [v] X.env pos) (by simp [pairTrees]) (by simp [pairTrees])]
  refine wpAny_bind (wpAny_standAt (wpAny_bind (wpAny_subDictH (knd := tupleKind (mixKind X.prog X.w)) (show X.A.units < cLine by omega) (by simp [pairTrees]) (thn ((pps_cons hk hv pps_nil).run pins _ σ _ (QT Q s.heap.objs.size) I1 (q _ hn)) fun ws s2 ⟨ps, H2, I2, rel, hq⟩ => ?_))))
  match ps, rel, hq with
  | [(x, y)], rel, ⟨hp, b, ks, ex, hb, q2⟩ =>
    subst ex
    cases rel with
    | @cons _ w0 _ _ r rr =>
      cases rr
      obtain ⟨key, vy⟩ := w0
      obtain ⟨r1, r2⟩ := r
      have e1 : key = .ref b := r1
      subst e1
      obtain ⟨z, hd, xs, rel, dd⟩ := dt_of I2.hok hp
      cases rel
      refine ⟨[(ks, b, vy)], ⟨rfl, rfl, key_of I2.hok hb, trivial⟩, dd, fun h' tk dd' hs => wpAny_pure ⟨.ref s.heap.objs.size, _, ?_, rfl, q2⟩⟩
      obtain ⟨q, es, ep, hq, h2, h3, h4, _, h5⟩ := dd'
      have hs' : storedAllH [] [(ks, b, vy)] = [(ks, b, vy)] := rfl
      rw [hs'] at h4 h5
      refine d_write (ob := .dT [(ks, y)]) I2 (by rw [hp]; exact True.intro) hs ⟨q, hq⟩ ⟨by show 1 ≤ sizeLine; decide, hd, [(ks, b, vy)], .cons ⟨rfl, ?_, r2⟩ .nil, q, es, ep, hq, h2, h3, h4, h5⟩
      rw [upd_ne (ne_of hb hp (fun z => nomatch z))]
      exact hb
  | [], _, hq => exact hq.elim
  | _ :: _ :: _, _, hq => exact hq.elim
def fDiT (f g : Fx D) : Fx D := fun δ => mb (f δ) fun k => mb (g δ) fun d => ml ((keysT k).map fun kk => .dict [(.tuple (kk.map kD), d)])
theorem ediT {k v : Expr} (hu : X.A.units + 64 < cLine) (hk : PE X k (tS os f)) (hv : PE X v (tS os g)) : PE X (.Dict [some k] [v] pos) (tF os (fDiT f g)) :=
  (pe_dispT hu hk hv).wk fun σ H Q ⟨δ, st, B, F, d0, st', R, ea, q⟩ => by
    obtain ⟨kd, s1, e1, eb⟩ := mb_some ea
    obtain ⟨d, s2, e2, ec⟩ := mb_some eb
    obtain ⟨e3, rfl⟩ := ml_some ec
    obtain ⟨kk, k1, rfl⟩ := Option.map_eq_some_iff.mp e3
    obtain rfl := keysT_some k1
    intro p hp
    have n := R.new hp
    have R0 := (R.grow (Gr.own (o := .dT []) R.sub hp)).aside ⟨n.b, n.f, n.o, n.s⟩ upd_same
    refine ⟨δ, st, B, _, _, s1, R0, e1, fun y H1 B1 l1 R1 r1 => ⟨δ, s1, B1, _, d, _, R1, e2, fun v H2 B2 l2 R2 r2 => ?_⟩⟩
    obtain ⟨Rb, nb, hd⟩ := R2.back n.f
    cases r1 with
    | @tup b xs _ hb rr =>
      obtain rfl := rr.tupK
      refine ⟨hd, b, kk, rfl, R2.sub _ _ (l2 _ _ hb), ?_⟩
      obtain ⟨Rc, nc, hc⟩ := (R2.rewrite (o' := .dT [(kk, v)]) n.f).back n.f
      exact q p _ B2 (l1.trans l2) Rc (.inr ⟨_, hc, .cons r2 .nil, by simp⟩) nc
end
end VL

set_option maxHeartbeats 1000000
/-! U15: zip as an iterable; sum, extend, pop(); len and sorted of dicts; what is never run; three at once; a list as a target's value. -/
namespace VL
open PySem PySem.Spec PyProof.Rows L2 RZ
section
variable {X : Cx} {os : Option (Addr × Addr)} {f g h : Fx D} {fr : Fx (List D)} {e e2 a : Expr} {es : List Expr} {p p2 pos pos2 cpos apos tpos kpos : Pos} {elts : List Expr} {kk : Nat}
/-! ### zip of two tuples -/
def zipL (ds es : List D) : List D := List.zipWith (fun x y => .tuple [x, y]) ds es
theorem zipL_len (ds es : List D) : (zipL ds es).length = min ds.length es.length := List.length_zipWith
theorem zipL_get {ds es : List D} {i : Nat} {d e : D} (h1 : ds[i]? = some d) (h2 : es[i]? = some e) : (zipL ds es)[i]? = some (.tuple [d, e]) := by
  unfold zipL
  rw [List.getElem?_zipWith, h1, h2]
theorem it_zipT {K : PySem.W.Frag} {B : Hp} {a b : Addr} {xs ys : List V} {ds es : List D} (e1 : Tp B a xs) (r1 : RpA B xs ds) (e2 : Tp B b ys) (r2 : RpA B ys es) (hs : ds.length ≤ sizeLine) : ItD (ItzT K a b) (zipL ds es) B where
  go := fun i H sb hi => by
    rw [zipL_len, Nat.lt_min, ← r1.length, ← r2.length] at hi
    exact ⟨xs, ys, _, _, (e1.mono sb).sq, (e2.mono sb).sq, List.getElem?_eq_getElem hi.1, List.getElem?_eq_getElem hi.2⟩
  stop := fun i H sb hi => ⟨xs, ys, (e1.mono sb).sq, (e2.mono sb).sq, by
    rw [zipL_len, ← r1.length, ← r2.length] at hi
    omega⟩
  yld := fun i H B' x H' s1 s2 hi ⟨T, v, w, ex, hT, eh, hv, hw⟩ => by
    subst ex eh
    rw [zipL_len, Nat.lt_min] at hi
    obtain ⟨v', h1, h2⟩ := r1.get (List.getElem?_eq_getElem hi.1)
    obtain ⟨w', h3, h4⟩ := r2.get (List.getElem?_eq_getElem hi.2)
    have h5 := hv xs (e1.mono (s1.trans s2)).sq
    rw [h1] at h5
    obtain rfl := Option.some.inj h5
    have h6 := hw ys (e2.mono (s1.trans s2)).sq
    rw [h3] at h6
    obtain rfl := Option.some.inj h6
    have g : Gr H B' (upd H T (.tup [v', w'])) (upd B' T (.tup [v', w'])) := Gr.put s2 hT
    exact ⟨_, _, zipL_get (List.getElem?_eq_getElem hi.1) (List.getElem?_eq_getElem hi.2), g, .tup upd_same (.cons (h2.mono (s1.trans g.leB)) (.cons (h4.mono (s1.trans g.leB)) .nil))⟩
  small := by rw [zipL_len]; omega
theorem it_zipS {K : PySem.W.Frag} {B : Hp} {a b : Addr} {xs ys : List V} {ds es : List D} (e1 : Tp B a xs) (r1 : RpA B xs ds) (e2 : Tp B b ys) (r2 : RpA B ys es) (hs : ds.length ≤ sizeLine) (hl : ds.length = es.length) : ItD (ItzS K a b) (zipL ds es) B where
  go := (it_zipT (K := K) e1 r1 e2 r2 hs).go
  stop := fun i H sb hi => ⟨xs, ys, (e1.mono sb).sq, (e2.mono sb).sq, by
    rw [zipL_len] at hi
    have h1 := r1.length
    have h2 := r2.length
    omega⟩
  yld := (it_zipT (K := K) e1 r1 e2 r2 hs).yld
  small := (it_zipT (K := K) e1 r1 e2 r2 hs).small
def zpD : List D → Option (List D)
  | [.tuple ds, .tuple es] => if ds.length ≤ sizeLine then some (zipL ds es) else none
  | _ => none
def zpSD : List D → Option (List D)
  | [.tuple ds, .tuple es] => if ds.length ≤ sizeLine ∧ ds.length = es.length then some (zipL ds es) else none
  | _ => none
def fZp (fr : Fx (List D)) : Fx (List D) := fun δ => mb (fr δ) fun d => ml (zpD d)
def fZpS (fr : Fx (List D)) : Fx (List D) := fun δ => mb (fr δ) fun d => ml (zpSD d)
theorem RpA.two {B : Hp} {vs : List V} {d d2 : D} (r : RpA B vs [d, d2]) : ∃ v u, vs = [v, u] ∧ Rp B v d ∧ Rp B u d2 := by
  cases r with
  | cons a r =>
    cases r with
    | cons b r => cases r; exact ⟨_, _, rfl, a, b⟩
theorem izp (hg : Gl X "zip") (hm : X.mg "zip" = none) (ha : PA X [e, e2] (tA os fr))
    (hs : starEach [e, e2] X.env = (false, eval e X.env) :: starEach [e2] X.env := by rfl) (hpl : (backTo pos (starEach [e2] X.env)).any (·.1) = false := by rfl) :
    PI X (.Tuple elts kk tpos) (.Call (.Name "zip" p) [e, e2] [] pos) (tI os (fZp fr)) :=
  (pi_zipA (elts := elts) (kk := kk) (tpos := tpos) hg hm ha hs hpl).wk fun σ H R ⟨δ, st, B, F, ds, st', R0, ea, q⟩ => by
    obtain ⟨us, s1, e1, eb⟩ := mb_some ea
    obtain ⟨e2, rfl⟩ := ml_some eb
    unfold zpD at e2
    split at e2
    · next xs ys =>
      split at e2
      · next hl =>
        cases e2
        refine ⟨δ, st, B, F, _, _, R0, e1, fun vs H1 B1 l1 R1 r1 => ?_⟩
        obtain ⟨v, u, rfl, ra, rb⟩ := r1.two
        cases ra with
        | tup ta raa =>
          cases rb with
          | tup tb rbb => exact ⟨_, _, _, _, rfl, .inr ⟨(ta.mono R1.sub).sq, (tb.mono R1.sub).sq, q _ H1 B1 l1 R1 (it_zipT ta raa tb rbb hl)⟩⟩
      · cases e2
    · cases e2
theorem izps {kc : Option Str} {b : Expr} (hg : Gl X "zip") (hm : X.mg "zip" = none) (ha : PA X [e, e2] (tA os fr))
    (he : backTo pos (starEach [e, e2] X.env) = (false, eval e X.env) :: backTo pos (starEach [e2] X.env) := by rfl) (hpl : (backTo pos (starEach [e, e2] X.env)).any (·.1) = false := by rfl) (hb : PE X b (tC (.bl true)))
    (hall : (backToKw pos (keywordEach [⟨some "strict", b, kpos⟩] X.env)).all (·.1.isSome) = true := by rfl) (hnone : (backToKw pos (keywordEach [⟨some "strict", b, kpos⟩] X.env)).any (·.1.isNone) = false := by rfl)
    (hks : (backToKw pos (keywordEach [⟨some "strict", b, kpos⟩] X.env)).filterMap (·.1) = [Str.ofString "strict"] := by rfl) :
    PI X (.Tuple elts kk tpos) (.Call (.Name "zip" p) [e, e2] [⟨some "strict", b, kpos⟩] pos) (tI os (fZpS fr)) :=
  (pi_zipS (elts := elts) (kk := kk) (tpos := tpos) (kc := kc) hg hm ha he hpl hb hall hnone hks).wk fun σ H R ⟨δ, st, B, F, ds, st', R0, ea, q⟩ => by
    obtain ⟨us, s1, e1, eb⟩ := mb_some ea
    obtain ⟨e2, rfl⟩ := ml_some eb
    unfold zpSD at e2
    split at e2
    · next xs ys =>
      split at e2
      · next hl =>
        cases e2
        refine ⟨δ, st, B, F, _, _, R0, e1, fun vs H1 B1 l1 R1 r1 => ?_⟩
        obtain ⟨v, u, rfl, ra, rb⟩ := r1.two
        cases ra with
        | tup ta raa =>
          cases rb with
          | tup tb rbb => exact ⟨_, _, _, _, rfl, (ta.mono R1.sub).sq, (tb.mono R1.sub).sq, q _ H1 B1 l1 R1 (it_zipS ta raa tb rbb hl.1 hl.2)⟩
      · cases e2
    · cases e2
/-! ### sum -/
def sumD : List D → Option D
  | [.list ds] => (intsOf ds).map fun ns => .int ns.sum
  | _ => none
theorem osum (hc : X.calm = true) : CallR X (.builtin "sum") (rc sumD) := by
  intro pins s σ H xs us Q I r ⟨B, a, d, sb, w, e, q⟩
  unfold sumD at e
  split at e
  · next ds =>
    obtain ⟨ns, h1, rfl⟩ := Option.map_eq_some_iff.mp e
    obtain rfl := intsOf_some h1
    obtain ⟨v, rfl, w1⟩ := w.one
    obtain ⟨p, ys, rfl, h, rr⟩ := w1.lst sb
    obtain rfl := rr.ints
    exact cr_sum hc pins s σ H _ us Q I r ⟨p, ns, rfl, .of h, q _ H B (.refl sb) (.int _)⟩
  · cases e
/-! ### l.extend(e), l.pop() -/
def extD (i : Nat) (d : D) (δ : List Slot) : Option (List Slot) := match δ[i]?, d with
  | some (.own (.list ds)), .list es => if ds.length + es.length ≤ sizeLine then some (δ.set i (.own (.list (ds ++ es)))) else none
  | _, _ => none
def sExt (i : Nat) (f : Fx D) : Fx Flow := fun δ => mb (f δ) fun d => mb (ml (extD i d δ)) fun δ' => mp (.nx δ')
theorem sext {i : Nat} {o : Expr} (ho : PE X o (tVar i)) (he : PE X e (tS os f))
    (hbase : attributeBase o "extend" X.env (eval o X.env) = eval o X.env := by rfl)
    (hfew : ((backTo cpos (starEach [e] X.env)).all (fun x => !x.1) && (backToKw cpos (keywordEach [] X.env)).all (fun x => x.1.isSome)
      && decide ([e].length + ([] : List Keyword).length + (if ([] : List Keyword).isEmpty then 0 else 1) < 30)) = true := by rfl)
    (hline : (apos.endLine == cpos.line) = true := by rfl) (hs : starEach [e] X.env = (false, eval e X.env) :: starEach [] X.env := by rfl) (hplain : (backTo cpos (starEach [] X.env)).any (·.1) = false := by rfl)
    (hsw : swapsWith (.Call (.Attribute o "extend" apos) [e] [] cpos) none pos.line X.env = pure false := by rfl) :
    PS X (.Expr (.Call (.Attribute o "extend" apos) [e] [] cpos) pos) (tB os (sExt i f)) :=
  (ps_expr (pe_bm PySem.F.plainAttrs_list PySem.F.slot_list_extend PySem.F.type_list_extend mt_extend ho (pa_cons he pa_nil hs) hbase hfew hline hs hplain) hsw).wk fun E σ H ⟨δ, st, B, F, fl, st', R, ea, x⟩ => by
    obtain ⟨d, s1, e1, eb⟩ := mb_some ea
    obtain ⟨δ', s2, e2, ec⟩ := mb_some eb
    obtain ⟨e3, rfl⟩ := ml_some e2
    obtain ⟨rfl, rfl⟩ := mp_some ec
    unfold extD at e3
    split at e3
    · next ds es hsl =>
      split at e3
      · next hl =>
        cases e3
        obtain ⟨p, ep, ⟨xs, hx, rx⟩, _⟩ := R.own i _ hsl
        refine ⟨.ref p, ep, .inl ⟨rfl, _, .of hx⟩, δ, st, B, F, _, _, R, e1, fun v H1 B1 l1 R1 r1 => ?_⟩
        obtain ⟨p', ep', ⟨ys, hy, ry⟩, _⟩ := R1.own i _ hsl
        have ep2 : p' = p := by rw [ep] at ep'; cases ep'; rfl
        subst ep2
        cases r1 with
        | lst eb rr =>
          refine ⟨p', _, ys, _, rfl, rfl, hy, R1.sub _ _ eb, by rw [ry.length, rr.length]; exact hl, ?_⟩
          exact x σ _ _ l1 (R1.write hsl ep ⟨_, upd_same, ry.append rr⟩)
      · cases e3
    · cases e3
def popLD (i j : Nat) (δ : List Slot) : Option (List Slot) := match δ[j]? with
  | some (.own (.list ds)) => (ds.getLast?).map fun d => ((δ.set j (.own (.list ds.dropLast))).set i (.val d))
  | _ => none
def sPopL (i j : Nat) : Fx Flow := fun δ => mb (ml (popLD i j δ)) fun δ' => mp (.nx δ')
theorem RpA.dropLast {B : Hp} {vs : List V} {ds : List D} (r : RpA B vs ds) : RpA B vs.dropLast ds.dropLast := by
  rw [List.dropLast_eq_take, List.dropLast_eq_take, r.length]
  exact r.take _
theorem spopL {st : Stmt} {i j : Nat} {te : TE} (h : PS X st (tAsg te (gName i))) (hf : ∀ σ H Q, tBM0 X.K "list" rPop (tVar j) σ H Q → te σ H Q := by intro _ _ _ q; exact q) : PS X st (tB os (sPopL i j)) :=
  h.wk fun E σ H ⟨δ, st, B, F, fl, st', R, ea, x⟩ => by
    obtain ⟨δ', s2, e2, ec⟩ := mb_some ea
    obtain ⟨e3, rfl⟩ := ml_some e2
    obtain ⟨rfl, rfl⟩ := mp_some ec
    unfold popLD at e3
    split at e3
    · next ds hsl =>
      obtain ⟨d, hd, rfl⟩ := Option.map_eq_some_iff.mp e3
      obtain ⟨p, ep, ⟨xs, hx, rx⟩, _⟩ := R.own j _ hsl
      rw [List.getLast?_eq_getElem?] at hd
      obtain ⟨v, hv, rv⟩ := rx.get hd
      refine hf σ H _ ⟨.ref p, ep, .inl ⟨rfl, _, .of hx⟩, ?_⟩
      refine ⟨p, xs, v, rfl, rfl, hx, by rw [rx.length]; exact hv, ?_⟩
      exact x _ _ _ (.refl _) ((R.write (d' := .list ds.dropLast) (o := .lst xs.dropLast) hsl ep ⟨_, upd_same, rx.dropLast⟩).set i rv)
    · cases e3
/-! ### what is never run -/
theorem bdead {sts : List Stmt} : PSs X sts (tB os fun _ => m0) := ⟨fun pins s σ H E I h => by
  obtain ⟨δ, st, B, F, fl, st', R, e, _⟩ := h
  cases e⟩
/-! ### a name of the module that is an int -/
theorem cgl {x : Str} {i : Int} (hg : Gl X x) (hm : ∃ t, X.mg x = some (.int i t)) (hd : (x == ("__debug__" : Str)) = false := by decide) : PE X (.Name x pos) (tS os fun _ => mp (.int i)) := by
  obtain ⟨t, hm⟩ := hm
  exact cst (pe_glob (v := .int i) hg hm ⟨t, rfl⟩ hd) fun _ => .int i
/-! ### len and sorted of a dict whose keys are tuples -/
theorem RpT.keys {B B' : Hp} {kvs : List (List Key × V)} {es : List (D × D)} (r : RpT B kvs es) : es.map (·.1) = kvs.map fun kv => PyData.tuple (kv.1.map kD) := by
  induction kvs generalizing es with
  | nil => cases r; rfl
  | cons kv kvs ih =>
    cases r with
    | cons a r => rw [List.map_cons, List.map_cons, ih r]
def lenTD : List D → Option D
  | [.dict es] => if tHead es = true then some (.int es.length) else none
  | _ => none
theorem olenT : CallR X (.builtin "len") (rc lenTD) := by
  intro pins s σ H xs us Q I r ⟨B, a, d, sb, w, e, q⟩
  unfold lenTD at e
  split at e
  · next es =>
    split at e
    · next ht =>
      cases e
      obtain ⟨v, rfl, w1⟩ := w.one
      obtain ⟨p, rfl, hh⟩ := w1.dic sb
      rcases hh with ⟨kvs, h1, rr⟩ | ⟨kvs, h1, rr, hne⟩
      · refine call_lenD pins s σ H _ us Q I r ⟨p, kvs, rfl, h1, ?_⟩
        rw [rr.length]
        exact q _ H B (.refl sb) (.int _)
      · refine call_len_dT pins s σ H _ us Q I r ⟨p, kvs, rfl, h1, ?_⟩
        rw [rr.length]
        exact q _ H B (.refl sb) (.int _)
    · cases e
  · cases e
/-- what stands and every tuple -/
def allT (B H : Hp) : Hp := fun a => match B a with
  | some o => some o
  | none => match H a with
    | some (.tup xs) => some (.tup xs)
    | _ => none
theorem allT_gr {B H : Hp} (sb : Same B H) : Gr H B H (allT B H) := by
  refine ⟨.refl _, fun a o e => ?_, fun a o e => ?_, fun a o e => ?_⟩
  · unfold allT; rw [e]
  · unfold allT at e
    cases hb : B a with
    | some z => rw [hb] at e; cases e; exact sb a _ hb
    | none =>
      rw [hb] at e
      cases hh : H a with
      | none => rw [hh] at e; cases e
      | some z =>
        rw [hh] at e
        cases z <;> first | (cases e; rfl) | cases e
  · unfold allT at e
    cases hb : B a with
    | some z => rw [hb] at e; cases e; exact .inl rfl
    | none =>
      rw [hb] at e
      cases hh : H a with
      | none => rw [hh] at e; cases e
      | some z =>
        rw [hh] at e
        cases z <;> first | (cases e; exact .inr (.inr ⟨_, rfl⟩)) | cases e
theorem allT_tup {B H : Hp} (sb : Same B H) {a : Addr} {xs : List V} (e : H a = some (.tup xs)) : allT B H a = some (.tup xs) := by
  unfold allT
  cases hb : B a with
  | some z =>
    have := sb a z hb
    rw [e] at this
    exact this.symm
  | none => rw [e]
theorem rpA_keys {B : Hp} : ∀ ks : List Key, RpA B (ks.map kV) (ks.map kD)
  | [] => .nil
  | .inl i :: r => .cons (.int i) (rpA_keys r)
  | .inr x :: r => .cons (.str x) (rpA_keys r)
def sdTD : D → Option D
  | .dict es => if tHead es = true ∧ sortOk (es.map (·.1)) = true then some (.list (sorD (es.map (·.1)))) else none
  | _ => none
theorem esdT (hc : X.calm = true) (hu : X.A.units + 64 < cLine) (hg : Gl X "sorted") (hm : X.mg "sorted" = none) (ha : PE X a (tW os f)) (na : starEach [a] X.env = (false, eval a X.env) :: starEach [] X.env := by rfl) :
    PE X (.Call (.Name "sorted" p) [a] [] pos) (tF os (f1 sdTD f)) := by
  refine ⟨fun pins s σ H Q I ⟨δ, st, B, F, d, st', R, ea, q⟩ => ?_⟩
  obtain ⟨x, s1, e1, eb⟩ := mb_some ea
  obtain ⟨e2, rfl⟩ := ml_some eb
  unfold sdTD at e2
  split at e2
  · next es =>
    split at e2
    · next hc2 =>
      cases e2
      refine wpAny_Call_Name_kw (ld_blt I hg hm (show bootBuiltins (Str.ofString "sorted") = some (.builtin "sorted") by decide +kernel) (PyProof.Rows.callWith_builtin1 (one_arg (R := fun v H2 => ∃ B', Same B B' ∧ Rel os δ st' σ H2 B' F ∧ Wz δ σ B' v (.dict es)) ha I ⟨δ, st, B, F, _, _, R, e1, fun v H' B' l1 R1 w1 => ⟨B', l1, R1, w1⟩⟩ (fun v s2 y H2 I2 r qq => ?_) na) na))
      obtain ⟨B', l1, R1, w1⟩ := qq
      obtain ⟨D0, rfl, hh⟩ := (w1.wk R1).dic R1.sub
      have ht := hc2.1
      rcases hh with ⟨kvs, h1, rr⟩ | ⟨kvs, h1, rr, hne⟩
      · exfalso
        cases rr with
        | nil => cases ht
        | @cons k0 v d kvs es a r =>
          have h' : (keysT (kD k0)).isSome = true := ht
          cases k0 with
          | inl i => cases h'
          | inr x => cases h'
      · cases r
        obtain ⟨z, hd, xs', rel, o, es', ep, ho, hx, hdat, hes, his, hn⟩ := dt_of I2.hok h1
        have g := allT_gr R1.sub
        have ek := rr.keys (B' := B')
        have e3 : es'.toList.map (·.key) = xs'.map fun x => Value.ref x.2.1 := by
          rw [hes, List.map_map]; rfl
        have rv : Vals (xs'.map fun x => V.ref x.2.1) (es'.toList.map (·.key)) := by
          rw [e3]
          exact vals_map fun _ _ => rfl
        have ra : RpA (allT B' H2) (xs'.map fun x => V.ref x.2.1) (es.map (·.1)) := by
          rw [ek]
          clear ek hes e3 rv his hn hdat rr h1 z
          induction rel with
          | nil => exact .nil
          | cons a r ih =>
            obtain ⟨a1, a2, a3⟩ := a
            exact .cons (.tup (allT_tup R1.sub a2) (rpA_keys _)) ih
        refine sorted_dict hc hu I2 g.sub hd ho hx hdat rfl rv ra hc2.2 fun l H4 B4 g2 hp hb ow => ?_
        exact q l H4 B4 (l1.trans (g.leB.trans g2.leB)) ((R1.grow g).grow g2) ow (new_grow (H' := H4) (R1.grow g) hp hb)
    · cases e2
  · cases e2
/-! ### a tuple * an int -/
theorem tuple_mul1 (l : Addr) (items : Array Value) (n : Nat) (dd : Option Addr) (sl : Array (Option Value)) (u : Tok) (h0 : items.isEmpty = false) :
    Meets (Builtin.«tuple.__mul__» ⟨[.ref l, .int 1 u], []⟩) (fun _ R s => s.heap.get? l = some { cls := .type "tuple", dict := dd, data := .seq items n, slots := sl } ∧ R (.ok (.ret (Value.ref l))) s) :=
  .of_wp fun prog w A R s h => by
    obtain ⟨hp, g, d, tk, os⟩ := s
    obtain ⟨hl, h⟩ := h
    have f1 := AutoSeq1.idx_int
    have c0 : (decide ((1 : Int) < -(2 ^ 63)) || decide ((1 : Int) ≥ 2 ^ 63)) = false := by decide
    have c1 : (items.isEmpty || (1 : Int) == 1) = true := by rw [h0]; rfl
    wp_walk using wpAny_loadPart' hl
    repeat (first
      | (refine wpAny_ite_false (decide_eq_false (by rw [c0]; exact Bool.false_ne_true)) ?_; wp_walk using wpAny_loadPart' hl)
      | (refine wpAny_ite_true (decide_eq_true c1) ?_; wp_walk using wpAny_loadPart' hl))
    all_goals exact ⟨_, rfl, h⟩
def mulTD : D → D → Option D
  | .tuple xs, .int k => if xs ≠ [] ∧ 1 ≤ k ∧ k ≤ 1000 ∧ xs.length ≤ 1000 then some (.tuple (List.replicate k.toNat xs).flatten) else none
  | _, _ => none
theorem op_rep1 : OpR X (binaryOp .Mult) (fun x y H Q => ∃ l xs, x = .ref l ∧ y = .int 1 ∧ H l = some (.tup xs) ∧ xs ≠ [] ∧ Q (.ref l) H) := by
  intro pins s σ H x y v u Q I rx ry h
  obtain ⟨l, xs, rfl, rfl, hT, hne, q⟩ := h
  cases rx
  obtain ⟨t, rfl⟩ := ry
  obtain ⟨its, r, ⟨⟨cls, dd, data, sl⟩, ho, hc, n, hd⟩, hs⟩ := I.tuple (Or.inl (Or.inl hT))
  simp only at hc hd
  subst hc hd
  have hle : its.length = xs.length := r.length.symm
  have hn : its ≠ [] := fun e => hne (by
    rw [e] at hle
    exact List.eq_nil_of_length_eq_zero hle.symm)
  have hi : its.toArray.isEmpty = false := by
    cases its with
    | nil => exact absurd rfl hn
    | cons a b => rfl
  refine wpAny_binaryOp_repeat_ref (T := "tuple") (U := "int") (by decide) ⟨_, ho, rfl⟩ (fun s' => typeIs_int s' 1 t) noFill_tuple_mul F.fills_int_mul F.slot_int_rmul repeat_tuple F.slot_int_index.lookup
    (call_meets F.slot_int_rmul (typeIs_int s 1 t) F.entry_int_rmul (F.args_int_rmul_2 _ _) (int_rmul_tuple 1 t l its.toArray n dd sl)
      ⟨ho, rfl, ⟨_, ho, rfl⟩, call_meets F.slot_tuple_mul ⟨_, ho, rfl⟩ F.entry_tuple_mul (F.args_tuple_mul_2 _ _) (tuple_mul1 l its.toArray n dd sl t hi) ⟨ho, ?_⟩⟩)
  exact ⟨.ref l, _, I, rfl, q⟩
theorem omulT : OpR X (binaryOp .Mult) (r2 mulTD) := by
  intro pins s σ H x y v u Q I rx ry ⟨B, a, b, d, sb, wa, wb, e, q⟩
  unfold mulTD at e
  split at e
  · next ds k =>
    split at e
    · next hc =>
      cases e
      obtain rfl := wb.int
      obtain ⟨p1, vs, rfl, h1, h1B, r1⟩ := wa.tup sb
      have hne : vs ≠ [] := fun z => hc.1 (r1.nil_iff.mp z)
      by_cases h2 : 2 ≤ k
      · refine op_repT pins s σ H _ _ v u Q I rx ry ⟨p1, k, vs, rfl, rfl, h1.sq, hne, h2, hc.2.2.1, by rw [r1.length]; exact hc.2.2.2, fun p hp => ?_⟩
        have g : Gr H B (upd H p (.tup (List.replicate k.toNat vs).flatten)) (upd B p (.tup (List.replicate k.toNat vs).flatten)) := Gr.put sb hp
        exact q _ _ _ g (.tup upd_same ((r1.rep _).mono g.leB))
      · have hk : k = 1 := by omega
        subst hk
        refine op_rep1 pins s σ H _ _ v u Q I rx ry ⟨p1, vs, rfl, rfl, h1, hne, q _ H B (.refl sb) ?_⟩
        have e1 : (List.replicate (1 : Int).toNat ds).flatten = ds := by simp
        rw [e1]
        exact .tup h1B r1
    · cases e
  · cases e
/-! ### len(dict(pairs)) -/
def ldD : D → Option D
  | .list ps => (keysP ps).bind fun ks => if sdOk ks = true then some (.int (dedupD ks).length) else none
  | _ => none
end
section
variable {prog : Program} {w : World} {A : Around} {E : Value → Shared → Prop} {s : Shared}
theorem call_len_raw {d : Addr} {es : Array DictEntry} {ep : Nat} {Q : Value → Shared → Prop} (hd : (d == sysModules) = false) (hm : s.heap.DictRaw d es ep) (hfit : (es.size : Int) < 2 ^ 63)
    (h : ∀ t tk, Q (.int es.size t) { s with toks := tk }) : wpAny (model prog w) A (call (.builtin "len") [.ref d]) Q E s := by
  refine Calls.call_function_entry kind_len plain_len entry_len (args_len1 _) ?_
  unfold Builtin.«len»
  refine wpAny_bind (m := oneArg "len" _) (wpAny_pure ?_)
  refine wpAny_bind (m := callSpecial? (.ref d) (Str.ofString "__len__")) (wpAny_callSpecial?_slot (name := Str.ofString "__len__") hm.typeIs F.slot_dict_len
    (call_meetsIn F.slot_dict_len hm.typeIs F.entry_dict_len (F.args_dict_len_1 _) (meets_dict_len_raw d hd) ⟨es, ep, hm, ?_⟩))
  show wpAny _ _ _ _ _ { s with toks := s.toks + 1 }
  refine wpAny_bind (wpAny_holding (wpAny_pure ?_))
  refine wpAny_bind (wpAny_letGo ?_)
  show wpAny _ _ (if ((es.size : Nat) : Int) < 0 then _ else _) _ _ _
  rw [if_neg (by omega)]
  show wpAny _ _ (if ((es.size : Nat) : Int) ≥ 2 ^ 63 then _ else _) _ _ _
  rw [if_neg (by omega)]
  exact wpAny_bind (wpAny_mkInt (wpAny_pure ⟨_, rfl, h _ _⟩))
end
section
variable {X : Cx} {os : Option (Addr × Addr)} {f g h : Fx D} {fr : Fx (List D)} {e e2 a : Expr} {es : List Expr} {p p2 pos pos2 cpos apos tpos kpos : Pos} {elts : List Expr} {kk : Nat}
theorem eld (hc : X.calm = true) (hu : X.A.units + 64 < cLine) (hg : Gl X "len") (hm : X.mg "len" = none) (hg2 : Gl X "dict") (hm2 : X.mg "dict" = none) (ha : PE X a (tW os f))
    (na : starEach [.Call (.Name "dict" p2) [a] [] pos2] X.env = (false, eval (.Call (.Name "dict" p2) [a] [] pos2) X.env) :: starEach [] X.env := by rfl) (na2 : starEach [a] X.env = (false, eval a X.env) :: starEach [] X.env := by rfl) :
    PE X (.Call (.Name "len" p) [.Call (.Name "dict" p2) [a] [] pos2] [] pos) (tS os (f1 ldD f)) := by
  refine ⟨fun pins s σ H Q I ⟨δ, st, B, F, d, st', R, ea, q⟩ => ?_⟩
  obtain ⟨x, s1, e1, eb⟩ := mb_some ea
  obtain ⟨e2, rfl⟩ := ml_some eb
  cases x with
  | list ps =>
    obtain ⟨ks, hk, e3⟩ := Option.bind_eq_some_iff.mp (show (keysP ps).bind (fun ks => if sdOk ks = true then some (PyData.int (dedupD ks).length) else none) = some d from e2)
    by_cases so : sdOk ks = true
    · rw [if_pos so] at e3
      cases e3
      refine wpAny_Call_Name_kw (ld_blt I hg hm (show bootBuiltins (Str.ofString "len") = some (.builtin "len") by decide +kernel) (PyProof.Rows.callWith_builtin1 (args_cons ?_ na) na))
      refine wpAny_Call_Name_kw (ld_blt I hg2 hm2 PyProof.Rows.boot_dict (PyProof.Rows.callWith_type1 (one_arg (R := fun v H2 => ∃ B', Same B B' ∧ Rel os δ st' σ H2 B' F ∧ Wz δ σ B' v (.list ps)) ha I ⟨δ, st, B, F, _, _, R, e1, fun v H' B' l1 R1 w1 => ⟨B', l1, R1, w1⟩⟩ (fun v s2 y H2 I2 r qq => ?_) na2) na2))
      obtain ⟨B', l1, R1, w1⟩ := qq
      refine dict_keys hc hu I2 R1.sub (w1.wk R1) r hk so fun D0 s3 I3 dk => args_nil ?_
      obtain ⟨lo, o, es, ep, vs, g1, g2, g3, g4, g5⟩ := dk
      have so2 := sdOk_sort so
      have hl : (dedupD ks).length ≤ sizeLine := by
        unfold sortOk at so2
        rw [Bool.and_eq_true] at so2
        exact of_decide_eq_true so2.2
      have hz : es.size = (dedupD ks).length := by
        have h1 : vs.length = (es.toList.map (·.key)).length := g4.length
        have h2 : vs.length = (dedupD ks).length := g5.length
        rw [List.length_map, Array.length_toList] at h1
        exact h1.symm.trans h2
      refine call_len_raw lo ⟨o, g1, g2, g3⟩ (by rw [hz]; rw [sizeLine_eq] at hl; omega) fun t tk => ?_
      rw [hz]
      exact ⟨.int _, H2, I3.tok _, ⟨_, rfl⟩, q _ H2 B' l1 R1 (.int _)⟩
    · rw [if_neg so] at e3; cases e3
  | _ => cases e2
/-! ### a list as a target's value -/
def gLs (n : Nat) (g : List D → List Slot → Option (List Slot)) (d : D) (δ : List Slot) : Option (List Slot) := match d with
  | .list ds => if ds.length = n then g ds δ else none
  | _ => none
instance {is : List Nat} {n : Nat} {g : List D → List Slot → Option (List Slot)} [G : GokA is g] : Gok is (gLs n g) := ⟨fun d δ δ' e => by
  cases d with
  | list ds =>
    have e' : (if ds.length = n then g ds δ else none) = some δ' := e
    by_cases hl : ds.length = n
    · rw [if_pos hl] at e'
      exact G.at_ _ _ _ e'
    · rw [if_neg hl] at e'
      cases e'
  | _ => cases e⟩
theorem glst {es : List Expr} {k : Nat} {is : List Nat} {n : Nat} {g : List D → List Slot → Option (List Slot)} (hc : X.calm = true) (h : PGs X es (tGA os is g))
    (hn : (assignEach es X.env).length = n := by rfl) (hst : (assignEach es X.env).findIdx? (·.1) = none := by rfl) : PG X (.Tuple es k pos) (tG os is (gLs n g)) := (pg_lst hc h hn hst).wk fun v σ H Q ⟨δ, st, B, F, d, δ', R, r, e, q⟩ => by
  cases r with
  | @lst a xs ds ea ra =>
    have e' : (if ds.length = n then g ds δ else none) = some δ' := e
    by_cases hl : ds.length = n
    · rw [if_pos hl] at e'
      exact ⟨_, _, rfl, .of (R.sub _ _ ea), by rw [ra.length]; exact hl, δ, st, B, F, _, δ', R, ra, e', q⟩
    · rw [if_neg hl] at e'
      cases e'
  | _ => cases e
/-! ### three at once -/
theorem New.set {δ : List Slot} {σ : St} {B F : Hp} {q : Addr} {i : Nat} {x : D} {v : V} (n : New os δ σ B F q) : New os (δ.set i (.val x)) (σ.set i (some v)) B F q := ⟨n.b, n.f, fun m d em z => by
  rcases set_get em with ⟨_, em⟩ | ⟨ne, em⟩
  · cases em
  · rw [List.getElem?_set_ne ne] at z
    exact n.o m d em z, n.s⟩
def sPar3 (i j l : Nat) (k2 k3 : Knd) (f g h : Fx D) : Fx Flow := fun δ => mb (f δ) fun x => mb (g δ) fun y => mb (h δ) fun z => mp (.nx (((δ.set i (.val x)).set j (slotK k2 y)).set l (slotK k3 z)))
theorem spar3 {ta tb tc : TE} {st : Stmt} {i j l : Nat} {k2 k3 : Knd} (hh : PS X st (tPar3 i j l (tCons ta (tCons tb (tCons tc tNil))))) (ha : ∀ σ H Q, tS os f σ H Q → ta σ H Q := by intro _ _ _ q; exact q) (hb : ∀ σ H Q, tK os k2 g σ H Q → tb σ H Q := by intro _ _ _ q; exact q)
    (hc : ∀ σ H Q, tK os k3 h σ H Q → tc σ H Q := by intro _ _ _ q; exact q) :
    PS X st (tB os (sPar3 i j l k2 k3 f g h)) := hh.wk fun E σ H ⟨δ, st, B, F, fl, st', R, e, q⟩ => by
  obtain ⟨x, s1, e1, e⟩ := mb_some e
  obtain ⟨y, s2, e2, e⟩ := mb_some e
  obtain ⟨z, s3, e3, e⟩ := mb_some e
  obtain ⟨rfl, rfl⟩ := mp_some e
  refine ha _ _ _ ⟨δ, st, B, F, x, s1, R, e1, fun u H0 B0 l0 R0 r0 => ?_⟩
  cases k2 with
  | v =>
    refine hb _ _ _ ⟨δ, s1, B0, F, y, s2, R0, e2, fun v H1 B1 l1 R1 r1 => ?_⟩
    cases k3 with
    | v => exact hc _ _ _ ⟨δ, s2, B1, F, z, _, R1, e3, fun w H2 B2 l2 R2 r2 => ⟨u, v, w, rfl, q _ H2 B2 (l0.trans (l1.trans l2)) (((R2.set i (r0.mono (l1.trans l2))).set j (r1.mono l2)).set l r2)⟩⟩
    | o => exact hc _ _ _ ⟨δ, s2, B1, F, z, _, R1, e3, fun p H2 B2 l2 R2 o2 n2 => ⟨u, v, .ref p, rfl, q _ H2 B2 (l0.trans (l1.trans l2)) (((R2.set i (r0.mono (l1.trans l2))).set j (r1.mono l2)).setOwn l n2.set.set o2)⟩⟩
  | o =>
    refine hb _ _ _ ⟨δ, s1, B0, F, y, s2, R0, e2, fun p H1 B1 l1 R1 o1 n1 => ?_⟩
    obtain ⟨ob, hob⟩ := o1.there
    have R1' := R1.aside n1 hob
    cases k3 with
    | v => exact hc _ _ _ ⟨δ, s2, B1, _, z, _, R1', e3, fun w H2 B2 l2 R2 r2 => by
        obtain ⟨R3, n3, h3⟩ := R2.back n1.f (o1.nt hob)
        have o3 : OwnRp B2 H2 p y := (o1.mono l2 (.refl _)).at fun z hz => by rw [hob] at hz; cases hz; exact h3
        exact ⟨u, .ref p, w, rfl, q _ H2 B2 (l0.trans (l1.trans l2)) (((R3.set i (r0.mono (l1.trans l2))).setOwn j n3.set o3).set l r2)⟩⟩
    | o => exact hc _ _ _ ⟨δ, s2, B1, _, z, _, R1', e3, fun p2 H2 B2 l2 R2 o2 n2 => by
        obtain ⟨R3, n3, h3⟩ := R2.back n1.f (o1.nt hob)
        have o3 : OwnRp B2 H2 p y := (o1.mono l2 (.refl _)).at fun z hz => by rw [hob] at hz; cases hz; exact h3
        have ne : p2 ≠ p := fun z => by
          have := n2.f
          rw [z, upd_same] at this
          cases this
        have n2s := n2.set (i := i) (x := x) (v := u)
        refine ⟨u, .ref p, .ref p2, rfl, q _ H2 B2 (l0.trans (l1.trans l2)) (((R3.set i (r0.mono (l1.trans l2))).setOwn j n3.set o3).setOwn l ⟨n2.b, ?_, fun m d em z => ?_, n2.s⟩ o2)⟩
        · have := n2.f
          rw [upd_ne ne] at this
          exact this
        · rcases set_get em with ⟨rfl, em⟩ | ⟨hne, em⟩
          · rcases set_get z with ⟨_, z⟩ | ⟨hz, _⟩
            · cases z; exact ne rfl
            · exact hz rfl
          · rw [List.getElem?_set_ne hne] at z
            exact n2s.o m d em z⟩
end
end VL

set_option maxHeartbeats 1000000
/-! U16: a, b = x, y where a comprehension reads a or b. -/
namespace VL
open PySem PySem.Spec PyProof.Rows L2 RZ
section
variable {X : Cx}
theorem ps_parC {i j : Nat} {x y : Str} {a b : Expr} {ta : TA} {px py pt pos : Pos} {kt k2 pt2} (hc : X.calm = true) (hN : X.N.Nodup) (hi : X.N[i]? = some x) (hj : X.N[j]? = some y)
    (hx : Loc X.env.scope x) (hy : Loc X.env.scope y) (fx : X.fn x = true ∨ X.env.scope.names.lookup x = some .local) (fy : X.fn y = true ∨ X.env.scope.names.lookup y = some .local) (ha : PA X [a, b] ta)
    (hw : swappedStores [.Tuple [.Name x px, .Name y py] kt pt] (.Tuple [a, b] k2 pt2) X.env = pure none)
    (hs : swapsWithSole [.Tuple [.Name x px, .Name y py] kt pt] (.Tuple [a, b] k2 pt2) pos.line X.env = pure false := by rfl) :
    PS X (.Assign [.Tuple [.Name x px, .Name y py] kt pt] (.Tuple [a, b] k2 pt2) pos) (tPar i j ta) := by
  refine ⟨fun pins s σ H D I h => ?_⟩
  refine wpAny_Assign_stores ?_ hs hw
  refine Tuple_ (thn (ha.run _ pins s σ H _ I h) fun us s1 ⟨vs, H1, I1, r1, q1⟩ => ?_)
  obtain ⟨v, w, e1, q1⟩ := q1
  subst e1
  obtain ⟨u1, u2, rfl, rv, rw'⟩ : ∃ u1 u2, us = [u1, u2] ∧ RelV v u1 ∧ RelV w u2 := by
    cases r1 with
    | cons p q =>
      cases q with
      | cons p' q' =>
        cases q'
        exact ⟨_, _, rfl, p, p'⟩
  refine wpAny_newObj_type ?_ (by show 2 ≤ sizeLine; decide)
  have I2 : Inv X pins σ H1 { s1 with heap := s1.heap.push { cls := .type "tuple", data := .seq [u1, u2].toArray } } := I1.kept (t' := s1.toks) fun b o e => Heap.get?_push_of_some _ e
  rw [show (assignEach [.Tuple [.Name x px, .Name y py] kt pt] X.env).map (·.2) = [assign (.Tuple [.Name x px, .Name y py] kt pt) X.env] from rfl]
  show wpAny (model X.prog X.w) X.A (assign (.Tuple [.Name x px, .Name y py] kt pt) X.env (.ref s1.heap.objs.size)) _ _ _
  refine assign_Tuple_tuple (items := #[u1, u2]) (I.ok.hd hc) (IsTup.new s1.heap _) rfl rfl fun h' hx' => ?_
  have I3 := I2.kept (h' := h') (t' := s1.toks) fun b o e => hx' b o (Nat.ne_of_lt (Heap.lt_size e)) e
  show wpAny _ _ (assignInOrder [assign (.Name x px) X.env, assign (.Name y py) X.env] [u1, u2]) _ _ _
  refine assignInOrder_cons (wpAny_assign_Name (store_ok I3 hN hi hx rv (fun s2 I4 => ?_) fx))
  refine assignInOrder_cons (wpAny_assign_Name (store_ok I4 hN hj hy rw' (fun s3 I5 => assignInOrder_nil ?_) fy))
  exact ⟨_, H1, I5, q1⟩
end
end VL

set_option maxHeartbeats 4000000

/-! The defs of the text: what each means by data. Printed by gen.py. -/
namespace VL
open PySem PySem.Spec PyProof.Rows L2
def topS (i : Nat) : Stmt := PySem.Challenge.pw_flowlattices_k57_whole_turnings_alike_by.main.body.getD i (.Pass ⟨0, 0, 0, 0⟩)
theorem bt_abs : bootBuiltins (Str.ofString "abs") = some (.builtin "abs") := by decide +kernel
theorem bt_dict : bootBuiltins (Str.ofString "dict") = some (.type "dict") := by decide +kernel
theorem bt_enumerate : bootBuiltins (Str.ofString "enumerate") = some (.type "enumerate") := by decide +kernel
theorem bt_int : bootBuiltins (Str.ofString "int") = some (.type "int") := by decide +kernel
theorem bt_len : bootBuiltins (Str.ofString "len") = some (.builtin "len") := by decide +kernel
theorem bt_list : bootBuiltins (Str.ofString "list") = some (.type "list") := by decide +kernel
theorem bt_max : bootBuiltins (Str.ofString "max") = some (.builtin "max") := by decide +kernel
theorem bt_min : bootBuiltins (Str.ofString "min") = some (.builtin "min") := by decide +kernel
theorem bt_range : bootBuiltins (Str.ofString "range") = some (.type "range") := by decide +kernel
theorem bt_repr : bootBuiltins (Str.ofString "repr") = some (.builtin "repr") := by decide +kernel
theorem bt_sorted : bootBuiltins (Str.ofString "sorted") = some (.builtin "sorted") := by decide +kernel
theorem bt_sum : bootBuiltins (Str.ofString "sum") = some (.builtin "sum") := by decide +kernel
theorem bt_tuple : bootBuiltins (Str.ofString "tuple") = some (.type "tuple") := by decide +kernel
theorem bt_zip : bootBuiltins (Str.ofString "zip") = some (.type "zip") := by decide +kernel
def fuel_cut_near_paper : Nat := 1
def fuel_nearest_cut_row : Nat := 1
def fuel_nearest_cut_rows : Nat := 300
def fuel_alike_by_cuts : Nat := 300
def fuel_rings_from : Nat := 12
def fuel_law : Nat := 12
def fuel__law_pick : Nat := 80
abbrev nm_heads_by : List Str := ["frame", "lot", "heads", "road", "low", "high", "head", "crossing"]
abbrev s_heads_by : Stmt := topS 4
theorem sc_heads_by : FnScope nm_heads_by ["frame", "lot"] (defScope s_heads_by) := ⟨rfl, rfl, rfl, by decide +kernel, rfl, by decide +kernel, by decide +kernel⟩
def b_heads_by : Fx Flow := (fSeq (sSet 2 (f1 lrgD (f2 itemD (gw 0) (fun _ => mp (.int 0))))) (fSeq (sFor (fSq (gv 1)) (gSet 3) (fSeq (sTo (gLs 2 (gAC (gSet 4) (gAC (gSet 5) gAN))) (fc sortD (fCons (lcF (fSq (f2 itemD (f2 itemD (gw 0) (fun _ => mp (.int 1))) (gw 3))) (gSet 7) (fun _ => mp true) (f2 itemD (gw 2) (gw 7)) [7]) fNil))) (sSet 2 (lcF (fSq (gv 2)) (gSet 6) (fun _ => mp true) (fIf (fB (f2 eqD (gw 6) (gw 5))) (gv 4) (gv 6)) [6])))) (sRet (gw 2))))
def sem_heads_by : List D → Option D := runP 8 b_heads_by
abbrev nm_pieces_by : List Str := ["frame", "lot", "heads", "found", "first", "crossing"]
abbrev s_pieces_by : Stmt := topS 5
theorem sc_pieces_by : FnScope nm_pieces_by ["frame", "lot"] (defScope s_pieces_by) := ⟨rfl, rfl, rfl, by decide +kernel, rfl, by decide +kernel, by decide +kernel⟩
def b_pieces_by : Fx Flow := (fSeq (sPar 2 3 .v .o (fCall 2 sem_heads_by (fCons (gv 0) (fCons (gv 1) fNil))) (fc lstD fNil)) (fSeq (sFor (fR1 (fCons (f2 itemD (gw 0) (fun _ => mp (.int 0))) fNil)) (gSet 4) (fIf (fB (f2 eqD (f2 itemD (gw 2) (gw 4)) (gw 4))) (sApp 3 (fc tupleD (fCons (lcF (fR1 (fCons (f2 itemD (gw 0) (fun _ => mp (.int 0))) fNil)) (gSet 5) (fB (f2 eqD (f2 itemD (gw 2) (gw 5)) (gw 4))) (gv 5) [5]) fNil))) (fun δ => mp (.nx δ)))) (sRet (fc tupleD (fCons (gw 3) fNil)))))
def sem_pieces_by : List D → Option D := runP 6 b_pieces_by
abbrev nm_piece_count : List Str := ["frame", "lot"]
abbrev s_piece_count : Stmt := topS 6
theorem sc_piece_count : FnScope nm_piece_count ["frame", "lot"] (defScope s_piece_count) := ⟨rfl, rfl, rfl, by decide +kernel, rfl, by decide +kernel, by decide +kernel⟩
def b_piece_count : Fx Flow := (sRet (fc lenD (fCons (fCall 2 sem_pieces_by (fCons (gv 0) (fCons (gv 1) fNil))) fNil)))
def sem_piece_count : List D → Option D := runP 2 b_piece_count
abbrev nm_row_of_lot : List Str := ["net", "lot", "a", "b"]
abbrev s_row_of_lot : Stmt := topS 8
theorem sc_row_of_lot : FnScope nm_row_of_lot ["net", "lot"] (defScope s_row_of_lot) := ⟨rfl, rfl, rfl, by decide +kernel, rfl, by decide +kernel, by decide +kernel⟩
def b_row_of_lot : Fx Flow := (sRet (fc tupleD (fCons (lcF (fSq (f2 itemD (gw 0) (fun _ => mp (.int 1)))) (gTp 2 (gAC (gSet 2) (gAC (gSet 3) gAN))) (fun _ => mp true) (f2 subD (fc intD (fCons (f2 inD (gw 2) (gw 1)) fNil)) (fc intD (fCons (f2 inD (gw 3) (gw 1)) fNil))) [2, 3]) fNil)))
def sem_row_of_lot : List D → Option D := runP 4 b_row_of_lot
abbrev nm_is_one_way_cut : List Str := ["net", "marks", "lot", "row", "road", "number"]
abbrev s_is_one_way_cut : Stmt := topS 9
theorem sc_is_one_way_cut : FnScope nm_is_one_way_cut ["net", "marks", "lot"] (defScope s_is_one_way_cut) := ⟨rfl, rfl, rfl, by decide +kernel, rfl, by decide +kernel, by decide +kernel⟩
def b_is_one_way_cut : Fx Flow := (fSeq (sSet 3 (fCall 2 sem_row_of_lot (fCons (gv 0) (fCons (gv 2) fNil)))) (sRet (f2 eqD (lcF (fEn (gv 3)) (gTp 2 (gAC (gSet 4) (gAC (gSet 5) gAN))) (fAnd (fB (f2 neD (gw 5) (fun _ => mp (.int 0)))) (fB (f2 neD (f2 itemD (gw 1) (gw 4)) (gw 5)))) (fun _ => mp (.int 1)) [4, 5]) (fc lstD fNil))))
def sem_is_one_way_cut : List D → Option D := runP 6 b_is_one_way_cut
abbrev nm_all_crossing_lots : List Str := ["n", "found", "crossing", "lot"]
abbrev s_all_crossing_lots : Stmt := topS 11
theorem sc_all_crossing_lots : FnScope nm_all_crossing_lots ["n"] (defScope s_all_crossing_lots) := ⟨rfl, rfl, rfl, by decide +kernel, rfl, by decide +kernel, by decide +kernel⟩
def b_all_crossing_lots : Fx Flow := (fSeq (sSet 1 (fc lstD (fCons (fc tupD (fCons (fun _ => mp (.int 0)) fNil)) fNil))) (fSeq (sFor (fR2 (fCons (fun _ => mp (.int 1)) (fCons (gv 0) fNil))) (gSet 2) (sSet 1 (f2 addD (gw 1) (lcF (fSq (gv 1)) (gSet 3) (fun _ => mp true) (fc tupD (fStar (gv 3) (fCons (gv 2) fNil))) [3])))) (sRet (lcF (fSq (gv 1)) (gSet 3) (fB (f2 ltD (fc lenD (fCons (gw 3) fNil)) (gw 0))) (gv 3) [3]))))
def sem_all_crossing_lots : List D → Option D := runP 4 b_all_crossing_lots
abbrev nm_hangs_within : List Str := ["net", "lot", "roads", "road", "a", "b"]
abbrev s_hangs_within : Stmt := topS 12
theorem sc_hangs_within : FnScope nm_hangs_within ["net", "lot"] (defScope s_hangs_within) := ⟨rfl, rfl, rfl, by decide +kernel, rfl, by decide +kernel, by decide +kernel⟩
def b_hangs_within : Fx Flow := (fSeq (sSet 2 (fc tupleD (fCons (lcF (fEn (f2 itemD (gw 0) (fun _ => mp (.int 1)))) (gTp 2 (gAC (gSet 3) (gAC (gTp 2 (gAC (gSet 4) (gAC (gSet 5) gAN))) gAN))) (fAnd (fB (f2 inD (gw 4) (gw 1))) (fB (f2 inD (gw 5) (gw 1)))) (gv 3) [3, 4, 5]) fNil))) (sRet (f2 eqD (fCall 2 sem_piece_count (fCons (fc tupD (fCons (f2 itemD (gw 0) (fun _ => mp (.int 0))) (fCons (f2 itemD (gw 0) (fun _ => mp (.int 1))) fNil))) (fCons (gv 2) fNil))) (f2 addD (f2 subD (f2 itemD (gw 0) (fun _ => mp (.int 0))) (fc lenD (fCons (gw 1) fNil))) (fun _ => mp (.int 1))))))
def sem_hangs_within : List D → Option D := runP 6 b_hangs_within
abbrev nm_least_cut_parts : List Str := ["net", "found", "lot", "rest", "crossing"]
abbrev s_least_cut_parts : Stmt := topS 13
theorem sc_least_cut_parts : FnScope nm_least_cut_parts ["net"] (defScope s_least_cut_parts) := ⟨rfl, rfl, rfl, by decide +kernel, rfl, by decide +kernel, by decide +kernel⟩
def b_least_cut_parts : Fx Flow := (fSeq (sOwn 1 (fc lstD fNil)) (fSeq (sFor (fSq (fCall 1 sem_all_crossing_lots (fCons (f2 itemD (gw 0) (fun _ => mp (.int 0))) fNil))) (gSet 2) (fSeq (sSet 3 (fc tupleD (fCons (lcF (fR1 (fCons (f2 itemD (gw 0) (fun _ => mp (.int 0))) fNil)) (gSet 4) (fB (f2 notInD (gw 4) (gw 2))) (gv 4) [4]) fNil))) (fIf (fAnd (fB (fCall 2 sem_hangs_within (fCons (gv 0) (fCons (gv 2) fNil)))) (fB (fCall 2 sem_hangs_within (fCons (gv 0) (fCons (gv 3) fNil))))) (sExt 1 (fc lstD (fCons (fCall 2 sem_row_of_lot (fCons (gv 0) (fCons (gv 2) fNil))) (fCons (fCall 2 sem_row_of_lot (fCons (gv 0) (fCons (gv 3) fNil))) fNil)))) (fun δ => mp (.nx δ))))) (sRet (fc tupleD (fCons (fc sortD (fCons (gw 1) fNil)) fNil)))))
def sem_least_cut_parts : List D → Option D := runP 5 b_least_cut_parts
abbrev nm_rest_row : List Str := ["y", "f", "numbers", "parts", "one", "other"]
abbrev s_rest_row : Stmt := topS 15
theorem sc_rest_row : FnScope nm_rest_row ["y", "f"] (defScope s_rest_row) := ⟨rfl, rfl, rfl, by decide +kernel, rfl, by decide +kernel, by decide +kernel⟩
def b_rest_row : Fx Flow := (fSeq (sTo (gTp 2 (gAC (gSet 2) (gAC (gSet 3) gAN))) (gv 0)) (sRet (fc tupleD (fCons (lcF (fZpS (fCons (gv 2) (fCons (gv 1) fNil))) (gTp 2 (gAC (gSet 4) (gAC (gSet 5) gAN))) (fun _ => mp true) (f2 subD (f2 mulD (fun _ => mp (.int 2)) (gw 4)) (f2 mulD (f2 mulD (fun _ => mp (.int 2)) (gw 3)) (gw 5))) [4, 5]) fNil))))
def sem_rest_row : List D → Option D := runP 6 b_rest_row
abbrev nm_cut_near_paper : List Str := ["net", "y", "k", "left", "half", "road", "flow", "wrong", "first", "tail", "head", "ways", "end", "by", "number", "late", "crossing"]
abbrev s_cut_near_paper : Stmt := topS 20
theorem sc_cut_near_paper : FnScope nm_cut_near_paper ["net", "y", "k"] (defScope s_cut_near_paper) := ⟨rfl, rfl, rfl, by decide +kernel, rfl, by decide +kernel, by decide +kernel⟩
def b_cut_near_paper : Fx Flow := (fSeq (sPar 3 4 .v .v (fc listD (fCons (fCall 2 sem_rest_row (fCons (gv 1) (fCons (gv 2) fNil))) fNil)) (f2 itemD (gw 1) (fun _ => mp (.int 1)))) (fSeq (sPar 6 7 .v .v (f2 mulD (fc lstD (fCons (fun _ => mp (.int 0)) fNil)) (fc lenD (fCons (gw 3) fNil))) (lcF (fEn (gv 3)) (gTp 2 (gAC (gSet 5) (gAC (gSet 14) gAN))) (fB (f2 gtD (fc absD (fCons (gw 14) fNil)) (gw 4))) (gv 5) [5, 14])) (fSeq (whF (fB (f2 neD (gw 7) (fc lstD fNil))) (fun _ => m0) fuel_cut_near_paper) (sRet (fc tupD (fCons (fun _ => mp (.str (Str.ofString "flow"))) (fCons (fc tupleD (fCons (gw 6) fNil)) fNil)))))))
def sem_cut_near_paper : List D → Option D := runP 17 b_cut_near_paper
abbrev nm_nearest_cut_row : List Str := ["net", "y", "found", "paper", "many", "most", "row", "often", "a", "b"]
abbrev s_nearest_cut_row : Stmt := topS 22
theorem sc_nearest_cut_row : FnScope nm_nearest_cut_row ["net", "y"] (defScope s_nearest_cut_row) := ⟨rfl, rfl, rfl, by decide +kernel, rfl, by decide +kernel, by decide +kernel⟩
def b_nearest_cut_row : Fx Flow := (fSeq (sSet 2 (f2 mulTD (fc tupD (fCons (fun _ => mp (.int 0)) fNil)) (fc lenD (fCons (f2 itemD (gw 0) (fun _ => mp (.int 1))) fNil)))) (fSeq (sSet 3 (fCall 3 sem_cut_near_paper (fCons (gv 0) (fCons (gv 1) (fCons (gv 2) fNil))))) (fSeq (whF (fB (f2 eqD (f2 itemD (gw 3) (fun _ => mp (.int 0))) (fun _ => mp (.str (Str.ofString "lot"))))) (fun _ => m0) fuel_nearest_cut_row) (sRet (gw 2)))))
def sem_nearest_cut_row : List D → Option D := runP 10 b_nearest_cut_row
abbrev nm_nearest_cut_rows : List Str := ["net", "y", "first", "cuts", "found", "line", "here", "rest", "cut", "late", "many", "a", "b", "one"]
abbrev s_nearest_cut_rows : Stmt := topS 23
theorem sc_nearest_cut_rows : FnScope nm_nearest_cut_rows ["net", "y"] (defScope s_nearest_cut_rows) := ⟨rfl, rfl, rfl, by decide +kernel, rfl, by decide +kernel, by decide +kernel⟩
def b_nearest_cut_rows : Fx Flow := (fSeq (sPar 2 3 .v .v (fCall 2 sem_nearest_cut_row (fCons (gv 0) (fCons (gv 1) fNil))) (fCall 1 sem_least_cut_parts (fCons (gv 0) fNil))) (fSeq (sPar 4 5 .o .o (fDiT (gv 2) (fun _ => mp (.bool true))) (fc lstD (fCons (gv 2) fNil))) (fSeq (whF (fB (f2 neD (gw 5) (fc lstD fNil))) (fSeq (sPopL 6 5) (fSeq (sSet 7 (fCall 2 sem_rest_row (fCons (gv 1) (fCons (gv 6) fNil)))) (fSeq (sFor (fSq (gv 3)) (gSet 8) (fSeq (sSet 9 (fc tupleD (fCons (lcF (fZpS (fCons (gv 6) (fCons (gv 8) fNil))) (gTp 2 (gAC (gSet 11) (gAC (gSet 12) gAN))) (fun _ => mp true) (f2 addD (gw 11) (gw 12)) [11, 12]) fNil))) (fSeq (sSet 10 (fc sumD (fCons (lcF (fZpS (fCons (gv 7) (fCons (gv 8) fNil))) (gTp 2 (gAC (gSet 11) (gAC (gSet 12) gAN))) (fun _ => mp true) (f2 mulD (gw 11) (gw 12)) [11, 12]) fNil))) (fIf (fAnd (fB (f2 eqD (gw 10) (f2 mulD (f2 itemD (gw 1) (fun _ => mp (.int 1))) (fc sumD (fCons (lcF (fSq (gv 8)) (gSet 13) (fun _ => mp true) (fc absD (fCons (gw 13) fNil)) [13]) fNil))))) (fB (f2 notInD (gw 9) (gw 4)))) (fSeq (sPut 4 (fun _ => mp (.bool true)) (gv 9)) (sApp 5 (gv 9))) (fun δ => mp (.nx δ)))))) (fIf (fB (f2 gtD (fc lenTD (fCons (gw 4) fNil)) (fun _ => mp (.int 2000)))) (fun _ => m0) (fun δ => mp (.nx δ)))))) fuel_nearest_cut_rows) (sRet (f1 sdTD (gw 4))))))
def sem_nearest_cut_rows : List D → Option D := runP 14 b_nearest_cut_rows
abbrev nm_alike_by_cuts : List Str := ["net", "turning", "lots", "found", "line", "here", "signs", "lot", "row", "back", "late", "mark", "sign", "number"]
abbrev s_alike_by_cuts : Stmt := topS 24
theorem sc_alike_by_cuts : FnScope nm_alike_by_cuts ["net", "turning"] (defScope s_alike_by_cuts) := ⟨rfl, rfl, rfl, by decide +kernel, rfl, by decide +kernel, by decide +kernel⟩
def b_alike_by_cuts : Fx Flow := (fSeq (sPar3 2 3 4 .o .o (fCall 1 sem_all_crossing_lots (fCons (f2 itemD (gw 0) (fun _ => mp (.int 0))) fNil)) (fDiT (gv 1) (fun _ => mp (.bool true))) (fc lstD (fCons (gv 1) fNil))) (fSeq (whF (fB (f2 neD (gw 4) (fc lstD fNil))) (fSeq (sPopL 5 4) (fSeq (sSet 6 (fc tupleD (fCons (lcF (fSq (gv 5)) (gSet 11) (fun _ => mp true) (f2 subD (fun _ => mp (.int 1)) (f2 mulD (fun _ => mp (.int 2)) (gw 11))) [11]) fNil))) (fSeq (sFor (fSq (gv 2)) (gSet 7) (fSeq (sSet 8 (fCall 2 sem_row_of_lot (fCons (gv 0) (fCons (gv 7) fNil)))) (fSeq (sSet 9 (fc tupleD (fCons (lcF (fSq (gv 6)) (gSet 12) (fun _ => mp true) (f1 negD (gw 12)) [12]) fNil))) (fIf (fOr (fB (fCall 3 sem_is_one_way_cut (fCons (gv 0) (fCons (gv 6) (fCons (gv 7) fNil))))) (fB (fCall 3 sem_is_one_way_cut (fCons (gv 0) (fCons (gv 9) (fCons (gv 7) fNil)))))) (fSeq (sSet 10 (fc tupleD (fCons (lcF (fZpS (fCons (gv 5) (fCons (gv 8) fNil))) (gTp 2 (gAC (gSet 11) (gAC (gSet 13) gAN))) (fun _ => mp true) (fIf (fB (f2 neD (gw 13) (fun _ => mp (.int 0)))) (f2 subD (fun _ => mp (.int 1)) (gw 11)) (gv 11)) [11, 13]) fNil))) (fIf (fB (f2 notInD (gw 10) (gw 3))) (fSeq (sPut 3 (fun _ => mp (.bool true)) (gv 10)) (sApp 4 (gv 10))) (fun δ => mp (.nx δ)))) (fun δ => mp (.nx δ)))))) (fIf (fB (f2 gtD (fc lenTD (fCons (gw 3) fNil)) (fun _ => mp (.int 2000)))) (fun _ => m0) (fun δ => mp (.nx δ)))))) fuel_alike_by_cuts) (sRet (fc tupleD (fCons (f1 sdTD (gw 3)) fNil)))))
def sem_alike_by_cuts : List D → Option D := runP 14 b_alike_by_cuts
abbrev nm_row_product : List Str := ["one", "other", "a", "b"]
abbrev s_row_product : Stmt := topS 26
theorem sc_row_product : FnScope nm_row_product ["one", "other"] (defScope s_row_product) := ⟨rfl, rfl, rfl, by decide +kernel, rfl, by decide +kernel, by decide +kernel⟩
def b_row_product : Fx Flow := (sRet (fc sumD (fCons (lcF (fZpS (fCons (gv 0) (fCons (gv 1) fNil))) (gTp 2 (gAC (gSet 2) (gAC (gSet 3) gAN))) (fun _ => mp true) (f2 mulD (gw 2) (gw 3)) [2, 3]) fNil)))
def sem_row_product : List D → Option D := runP 4 b_row_product
abbrev nm_turned_row : List Str := ["row", "number"]
abbrev s_turned_row : Stmt := topS 29
theorem sc_turned_row : FnScope nm_turned_row ["row"] (defScope s_turned_row) := ⟨rfl, rfl, rfl, by decide +kernel, rfl, by decide +kernel, by decide +kernel⟩
def b_turned_row : Fx Flow := (sRet (fc tupleD (fCons (lcF (fSq (gv 0)) (gSet 1) (fun _ => mp true) (f1 negD (gw 1)) [1]) fNil)))
def sem_turned_row : List D → Option D := runP 2 b_turned_row
abbrev nm_steps_on : List Str := ["frame", "crossing", "found", "road", "a", "b"]
abbrev s_steps_on : Stmt := topS 30
theorem sc_steps_on : FnScope nm_steps_on ["frame", "crossing"] (defScope s_steps_on) := ⟨rfl, rfl, rfl, by decide +kernel, rfl, by decide +kernel, by decide +kernel⟩
def b_steps_on : Fx Flow := (fSeq (sOwn 2 (fc lstD fNil)) (fSeq (sFor (fEn (f2 itemD (gw 0) (fun _ => mp (.int 1)))) (gTp 2 (gAC (gSet 3) (gAC (gTp 2 (gAC (gSet 4) (gAC (gSet 5) gAN))) gAN))) (fSeq (fIf (fB (f2 eqD (gw 4) (gw 1))) (sApp 2 (fc tupD (fCons (gv 3) (fCons (fun _ => mp (.int 1)) (fCons (gv 5) fNil))))) (fun δ => mp (.nx δ))) (fIf (fB (f2 eqD (gw 5) (gw 1))) (sApp 2 (fc tupD (fCons (gv 3) (fCons (f1 negD (fun _ => mp (.int 1))) (fCons (gv 4) fNil))))) (fun δ => mp (.nx δ))))) (sRet (gw 2))))
def sem_steps_on : List D → Option D := runP 6 b_steps_on
abbrev nm_rings_from : List Str := ["frame", "first", "a", "b", "road", "row", "found", "ways", "late", "here", "met", "sign", "there", "more", "one", "number"]
abbrev s_rings_from : Stmt := topS 31
theorem sc_rings_from : FnScope nm_rings_from ["frame", "first"] (defScope s_rings_from) := ⟨rfl, rfl, rfl, by decide +kernel, rfl, by decide +kernel, by decide +kernel⟩
def b_rings_from : Fx Flow := (fSeq (sTo (gTp 2 (gAC (gSet 2) (gAC (gSet 3) gAN))) (f2 itemD (f2 itemD (gw 0) (fun _ => mp (.int 1))) (gw 1))) (fSeq (sSet 5 (fc tupleD (fCons (lcF (fR1 (fCons (fc lenD (fCons (f2 itemD (gw 0) (fun _ => mp (.int 1))) fNil)) fNil)) (gSet 4) (fun _ => mp true) (fc intD (fCons (f2 eqD (gw 4) (gw 1)) fNil)) [4]) fNil))) (fSeq (fIf (fB (f2 eqD (gw 2) (gw 3))) (sRet (fc lstD (fCons (gv 5) fNil))) (fun δ => mp (.nx δ))) (fSeq (sPar 6 7 .o .v (fc lstD fNil) (fc lstD (fCons (fc tupD (fCons (gv 5) (fCons (gv 3) (fCons (fc tupD (fCons (gv 3) fNil)) fNil)))) fNil))) (fSeq (whF (fB (f2 neD (gw 7) (fc lstD fNil))) (fSeq (sOwn 8 (fc lstD fNil)) (fSeq (sFor (fSq (gv 7)) (gTp 3 (gAC (gSet 5) (gAC (gSet 9) (gAC (gSet 10) gAN)))) (sFor (fSq (fCall 2 sem_steps_on (fCons (gv 0) (fCons (gv 9) fNil)))) (gTp 3 (gAC (gSet 4) (gAC (gSet 11) (gAC (gSet 12) gAN)))) (fIf (fAnd (fB (f2 gtD (gw 4) (gw 1))) (fB (f2 notInD (gw 12) (gw 10)))) (fSeq (sSet 13 (fc tupleD (fCons (lcF (fEn (gv 5)) (gTp 2 (gAC (gSet 14) (gAC (gSet 15) gAN))) (fun _ => mp true) (fIf (fB (f2 eqD (gw 14) (gw 4))) (gv 11) (gv 15)) [14, 15]) fNil))) (fIf (fB (f2 eqD (gw 12) (gw 2))) (sApp 6 (gv 13)) (sApp 8 (fc tupD (fCons (gv 13) (fCons (gv 12) (fCons (fc tupD (fStar (gv 10) (fCons (gv 12) fNil))) fNil))))))) (fun δ => mp (.nx δ))))) (fFrz 8 (fSeq (sSet 7 (gv 8)) (fIf (fB (f2 gtD (f2 addD (fc lenD (fCons (gw 6) fNil)) (fc lenD (fCons (gw 7) fNil))) (fun _ => mp (.int 2000)))) (fun _ => m0) (fun δ => mp (.nx δ))))))) fuel_rings_from) (sRet (gw 6)))))))
def sem_rings_from : List D → Option D := runP 16 b_rings_from
abbrev nm_simple_ring_rows : List Str := ["frame", "found", "road", "row"]
abbrev s_simple_ring_rows : Stmt := topS 32
theorem sc_simple_ring_rows : FnScope nm_simple_ring_rows ["frame"] (defScope s_simple_ring_rows) := ⟨rfl, rfl, rfl, by decide +kernel, rfl, by decide +kernel, by decide +kernel⟩
def b_simple_ring_rows : Fx Flow := (fSeq (sOwn 1 (fc lstD fNil)) (fSeq (sFor (fR1 (fCons (fc lenD (fCons (f2 itemD (gw 0) (fun _ => mp (.int 1))) fNil)) fNil)) (gSet 2) (fSeq (sExt 1 (fCall 2 sem_rings_from (fCons (gv 0) (fCons (gv 2) fNil)))) (fIf (fB (f2 gtD (fc lenD (fCons (gw 1) fNil)) (fun _ => mp (.int 2000)))) (fun _ => m0) (fun δ => mp (.nx δ))))) (fFrz 1 (sRet (fc tupleD (fCons (fc sortD (fCons (f2 addD (gw 1) (lcF (fSq (gv 1)) (gSet 3) (fun _ => mp true) (fCall 1 sem_turned_row (fCons (gv 3) fNil)) [3])) fNil)) fNil))))))
def sem_simple_ring_rows : List D → Option D := runP 4 b_simple_ring_rows
abbrev nm__law_source : List Str := ["script", "mixed", "cell"]
abbrev s__law_source : Stmt := topS 34
theorem sc__law_source : FnScope nm__law_source ["script"] (defScope s__law_source) := ⟨rfl, rfl, rfl, by decide +kernel, rfl, by decide +kernel, by decide +kernel⟩
abbrev nm__law_pick : List Str := ["source", "many", "left", "mixed"]
abbrev s__law_pick : Stmt := topS 35
theorem sc__law_pick : FnScope nm__law_pick ["source", "many"] (defScope s__law_pick) := ⟨rfl, rfl, rfl, by decide +kernel, rfl, by decide +kernel, by decide +kernel⟩
def b__law_pick : Fx Flow := (fSeq (whF (fAnd (fB (f2 gtD (gw 1) (fun _ => mp (.int 1)))) (fAnd (fB (f2 ltD (fGet 0 .left) (fun _ => mp (.int 2)))) (fB (f2 gtD (fLenC 0) (fun _ => mp (.int 0)))))) (sPopS 0) fuel__law_pick) (fSeq (sSet 2 (fGet 0 .left)) (fSeq (fIf (fOr (fB (f2 ltD (gw 1) (fun _ => mp (.int 2)))) (fB (f2 gtD (gw 2) (fun _ => mp (.int 1))))) (fSeq (sPutS 0 .left (f2 fdivD (gw 2) (fc maxD (fCons (fun _ => mp (.int 1)) (fCons (gw 1) fNil))))) (sRet (f2 modD (fc intD (fCons (gw 2) fNil)) (fc maxD (fCons (fun _ => mp (.int 1)) (fCons (gw 1) fNil)))))) (fun δ => mp (.nx δ))) (fSeq (sPutS 0 .turn (f2 addD (fGet 0 .turn) (fun _ => mp (.int 1)))) (fSeq (sSet 3 (f2 modD (fc intD (fCons (f2 addD (fGet 0 .mixed) (f2 mulD (fGet 0 .turn) (fun _ => mp (.int 104729)))) fNil)) (fun _ => mp (.int 998244353)))) (fSeq (sSet 3 (f2 modD (fc intD (fCons (f2 addD (f2 mulD (gw 3) (gw 3)) (f2 mulD (fGet 0 .turn) (fun _ => mp (.int 17)))) fNil)) (fun _ => mp (.int 2147483647)))) (fSeq (sPutS 0 .mixed (gv 3)) (sRet (f2 modD (fc intD (fCons (f2 fdivD (gw 3) (fun _ => mp (.int 16))) fNil)) (gw 1))))))))))
def sem__law_pick : List D → M D := runS 4 b__law_pick
abbrev nm__law_of : List Str := ["source", "some"]
abbrev s__law_of : Stmt := topS 36
theorem sc__law_of : FnScope nm__law_of ["source", "some"] (defScope s__law_of) := ⟨rfl, rfl, rfl, by decide +kernel, rfl, by decide +kernel, by decide +kernel⟩
def b__law_of : Fx Flow := (sRet (f2 itemD (gw 1) (fSrc 0 1 sem__law_pick (fCons (fc lenD (fCons (gw 1) fNil)) fNil))))
def sem__law_of : List D → M D := runS 2 b__law_of
abbrev nm__law_mixed : List Str := ["source", "things", "rest", "lap"]
abbrev s__law_mixed : Stmt := topS 37
theorem sc__law_mixed : FnScope nm__law_mixed ["source", "things"] (defScope s__law_mixed) := ⟨rfl, rfl, rfl, by decide +kernel, rfl, by decide +kernel, by decide +kernel⟩
def b__law_mixed : Fx Flow := (fSeq (sOwn 2 (fc listD (fCons (gw 1) fNil))) (lcX (fR1 (fCons (fc lenD (fCons (gw 2) fNil)) fNil)) (gSet 3) (fun _ => mp true) (fPop 2 (fSrc 0 1 sem__law_pick (fCons (fc lenD (fCons (gw 2) fNil)) fNil))) [3]))
def sem__law_mixed : List D → M D := runS 4 b__law_mixed
abbrev nm__law_hung : List Str := ["source", "crossings", "roads", "n", "pairs", "names", "k", "lap", "pair"]
abbrev s__law_hung : Stmt := topS 38
theorem sc__law_hung : FnScope nm__law_hung ["source", "crossings", "roads"] (defScope s__law_hung) := ⟨rfl, rfl, rfl, by decide +kernel, rfl, by decide +kernel, by decide +kernel⟩
def b__law_hung : Fx Flow := (fSeq (sPar 3 4 .v .o (f2 addD (fun _ => mp (.int 1)) (fSrc 0 1 sem__law_pick (fCons (gv 1) fNil))) (fc lstD fNil)) (fSeq (sSet 5 (fSrc 0 1 sem__law_mixed (fCons (f1 lrgD (gv 3)) fNil))) (fSeq (sFor (fR2 (fCons (fun _ => mp (.int 1)) (fCons (gv 3) fNil))) (gSet 6) (sApp 4 (fc tupD (fCons (f2 itemD (gw 5) (fSrc 0 1 sem__law_pick (fCons (gv 6) fNil))) (fCons (f2 itemD (gw 5) (gw 6)) fNil))))) (fSeq (sFor (fR1 (fCons (fSrc 0 1 sem__law_pick (fCons (fc maxD (fCons (fun _ => mp (.int 1)) (fCons (f2 addD (f2 subD (gw 2) (gw 3)) (fun _ => mp (.int 2))) fNil))) fNil)) fNil)) (gSet 7) (sApp 4 (fc tupD (fCons (fSrc 0 1 sem__law_pick (fCons (gv 3) fNil)) (fCons (fSrc 0 1 sem__law_pick (fCons (gv 3) fNil)) fNil))))) (fFrz 4 (fSeq (sSet 4 (lcF (fSq (fSrc 0 1 sem__law_mixed (fCons (gv 4) fNil))) (gSet 8) (fun _ => mp true) (fIf (fB (f2 eqD (fSrc 0 1 sem__law_pick (fCons (fun _ => mp (.int 2)) fNil)) (fun _ => mp (.int 0)))) (f1 revD (gw 8)) (gv 8)) [8])) (sRet (fc tupD (fCons (gv 3) (fCons (fc tupleD (fCons (gw 4) fNil)) fNil))))))))))
def sem__law_hung : List D → M D := runS 9 b__law_hung
abbrev nm__law_rising : List Str := ["frame", "heights", "a", "b"]
abbrev s__law_rising : Stmt := topS 39
theorem sc__law_rising : FnScope nm__law_rising ["frame", "heights"] (defScope s__law_rising) := ⟨rfl, rfl, rfl, by decide +kernel, rfl, by decide +kernel, by decide +kernel⟩
def b__law_rising : Fx Flow := (sRet (fc tupleD (fCons (lcF (fSq (f2 itemD (gw 0) (fun _ => mp (.int 1)))) (gTp 2 (gAC (gSet 2) (gAC (gSet 3) gAN))) (fun _ => mp true) (f2 subD (f2 itemD (gw 1) (gw 3)) (f2 itemD (gw 1) (gw 2))) [2, 3]) fNil)))
def sem__law_rising : List D → Option D := runP 4 b__law_rising
abbrev nm__law_heights : List Str := ["frame", "row", "known", "lap", "a", "b", "number", "heights", "c"]
abbrev s__law_heights : Stmt := topS 40
theorem sc__law_heights : FnScope nm__law_heights ["frame", "row"] (defScope s__law_heights) := ⟨rfl, rfl, rfl, by decide +kernel, rfl, by decide +kernel, by decide +kernel⟩
def b__law_heights : Fx Flow := (fSeq (sOwn 2 (fDi1 (fun _ => mp (.int 0)) (fun _ => mp (.int 0)))) (fSeq (sFor (fR1 (fCons (f2 itemD (gw 0) (fun _ => mp (.int 0))) fNil)) (gSet 3) (sFor (fZp (fCons (f2 itemD (gw 0) (fun _ => mp (.int 1))) (fCons (gv 1) fNil))) (gTp 2 (gAC (gTp 2 (gAC (gSet 4) (gAC (gSet 5) gAN))) (gAC (gSet 6) gAN))) (fSeq (fIf (fAnd (fB (f2 inD (gw 4) (gw 2))) (fB (f2 notInD (gw 5) (gw 2)))) (sPut 2 (f2 addD (f2 dgetD (gw 2) (gw 4)) (gw 6)) (gv 5)) (fun δ => mp (.nx δ))) (fIf (fAnd (fB (f2 inD (gw 5) (gw 2))) (fB (f2 notInD (gw 4) (gw 2)))) (sPut 2 (f2 subD (f2 dgetD (gw 2) (gw 5)) (gw 6)) (gv 4)) (fun δ => mp (.nx δ)))))) (fSeq (sSet 7 (fc tupleD (fCons (lcF (fR1 (fCons (f2 itemD (gw 0) (fun _ => mp (.int 0))) fNil)) (gSet 8) (fun _ => mp true) (f2 dgetD (gw 2) (gw 8)) [8]) fNil))) (sRet (fIf (fB (f2 eqD (fCall 2 sem__law_rising (fCons (gv 0) (fCons (gv 7) fNil))) (fc tupleD (fCons (gw 1) fNil)))) (gv 7) (fun _ => mp .none))))))
def sem__law_heights : List D → Option D := runP 9 b__law_heights
abbrev nm__law_all_turnings : List Str := ["m", "found", "r", "late", "turning", "mark"]
abbrev s__law_all_turnings : Stmt := topS 41
theorem sc__law_all_turnings : FnScope nm__law_all_turnings ["m"] (defScope s__law_all_turnings) := ⟨rfl, rfl, rfl, by decide +kernel, rfl, by decide +kernel, by decide +kernel⟩
def b__law_all_turnings : Fx Flow := (fSeq (sSet 1 (fc lstD (fCons (fc tupD fNil) fNil))) (fSeq (sFor (fR1 (fCons (gv 0) fNil)) (gSet 2) (fSeq (sSet 3 (fc lstD fNil)) (fSeq (sFor (fSq (gv 1)) (gSet 4) (sSet 3 (f2 addD (gw 3) (lcF (fSq (fc tupD (fCons (fun _ => mp (.int 0)) (fCons (fun _ => mp (.int 1)) fNil)))) (gSet 5) (fun _ => mp true) (f2 addD (gw 4) (fc tupD (fCons (gv 5) fNil))) [5])))) (sSet 1 (gv 3))))) (sRet (gw 1))))
def sem__law_all_turnings : List D → Option D := runP 6 b__law_all_turnings
abbrev nm__law_signs_of : List Str := ["turning", "mark"]
abbrev s__law_signs_of : Stmt := topS 42
theorem sc__law_signs_of : FnScope nm__law_signs_of ["turning"] (defScope s__law_signs_of) := ⟨rfl, rfl, rfl, by decide +kernel, rfl, by decide +kernel, by decide +kernel⟩
def b__law_signs_of : Fx Flow := (sRet (fc tupleD (fCons (lcF (fSq (gv 0)) (gSet 1) (fun _ => mp true) (f2 subD (fun _ => mp (.int 1)) (f2 mulD (fun _ => mp (.int 2)) (gw 1))) [1]) fNil)))
def sem__law_signs_of : List D → Option D := runP 2 b__law_signs_of
structure Ms (K : PySem.W.Frag) (mg : Str → Option Value) where
  f_heads_by : Addr
  d_heads_by : FuncData
  F_heads_by : Fun K "heads_by" "heads_by" s_heads_by f_heads_by d_heads_by
  g_heads_by : mg "heads_by" = some (.ref f_heads_by)
  b_heads_by : Binds K d_heads_by ["frame", "lot"] []
  f_pieces_by : Addr
  d_pieces_by : FuncData
  F_pieces_by : Fun K "pieces_by" "pieces_by" s_pieces_by f_pieces_by d_pieces_by
  g_pieces_by : mg "pieces_by" = some (.ref f_pieces_by)
  b_pieces_by : Binds K d_pieces_by ["frame", "lot"] []
  f_piece_count : Addr
  d_piece_count : FuncData
  F_piece_count : Fun K "piece_count" "piece_count" s_piece_count f_piece_count d_piece_count
  g_piece_count : mg "piece_count" = some (.ref f_piece_count)
  b_piece_count : Binds K d_piece_count ["frame", "lot"] []
  f_row_of_lot : Addr
  d_row_of_lot : FuncData
  F_row_of_lot : Fun K "row_of_lot" "row_of_lot" s_row_of_lot f_row_of_lot d_row_of_lot
  g_row_of_lot : mg "row_of_lot" = some (.ref f_row_of_lot)
  b_row_of_lot : Binds K d_row_of_lot ["net", "lot"] []
  f_is_one_way_cut : Addr
  d_is_one_way_cut : FuncData
  F_is_one_way_cut : Fun K "is_one_way_cut" "is_one_way_cut" s_is_one_way_cut f_is_one_way_cut d_is_one_way_cut
  g_is_one_way_cut : mg "is_one_way_cut" = some (.ref f_is_one_way_cut)
  b_is_one_way_cut : Binds K d_is_one_way_cut ["net", "marks", "lot"] []
  f_all_crossing_lots : Addr
  d_all_crossing_lots : FuncData
  F_all_crossing_lots : Fun K "all_crossing_lots" "all_crossing_lots" s_all_crossing_lots f_all_crossing_lots d_all_crossing_lots
  g_all_crossing_lots : mg "all_crossing_lots" = some (.ref f_all_crossing_lots)
  b_all_crossing_lots : Binds K d_all_crossing_lots ["n"] []
  f_hangs_within : Addr
  d_hangs_within : FuncData
  F_hangs_within : Fun K "hangs_within" "hangs_within" s_hangs_within f_hangs_within d_hangs_within
  g_hangs_within : mg "hangs_within" = some (.ref f_hangs_within)
  b_hangs_within : Binds K d_hangs_within ["net", "lot"] []
  f_least_cut_parts : Addr
  d_least_cut_parts : FuncData
  F_least_cut_parts : Fun K "least_cut_parts" "least_cut_parts" s_least_cut_parts f_least_cut_parts d_least_cut_parts
  g_least_cut_parts : mg "least_cut_parts" = some (.ref f_least_cut_parts)
  b_least_cut_parts : Binds K d_least_cut_parts ["net"] []
  f_rest_row : Addr
  d_rest_row : FuncData
  F_rest_row : Fun K "rest_row" "rest_row" s_rest_row f_rest_row d_rest_row
  g_rest_row : mg "rest_row" = some (.ref f_rest_row)
  b_rest_row : Binds K d_rest_row ["y", "f"] []
  f_cut_near_paper : Addr
  d_cut_near_paper : FuncData
  F_cut_near_paper : Fun K "cut_near_paper" "cut_near_paper" s_cut_near_paper f_cut_near_paper d_cut_near_paper
  g_cut_near_paper : mg "cut_near_paper" = some (.ref f_cut_near_paper)
  b_cut_near_paper : Binds K d_cut_near_paper ["net", "y", "k"] []
  f_nearest_cut_row : Addr
  d_nearest_cut_row : FuncData
  F_nearest_cut_row : Fun K "nearest_cut_row" "nearest_cut_row" s_nearest_cut_row f_nearest_cut_row d_nearest_cut_row
  g_nearest_cut_row : mg "nearest_cut_row" = some (.ref f_nearest_cut_row)
  b_nearest_cut_row : Binds K d_nearest_cut_row ["net", "y"] []
  f_nearest_cut_rows : Addr
  d_nearest_cut_rows : FuncData
  F_nearest_cut_rows : Fun K "nearest_cut_rows" "nearest_cut_rows" s_nearest_cut_rows f_nearest_cut_rows d_nearest_cut_rows
  g_nearest_cut_rows : mg "nearest_cut_rows" = some (.ref f_nearest_cut_rows)
  b_nearest_cut_rows : Binds K d_nearest_cut_rows ["net", "y"] []
  f_alike_by_cuts : Addr
  d_alike_by_cuts : FuncData
  F_alike_by_cuts : Fun K "alike_by_cuts" "alike_by_cuts" s_alike_by_cuts f_alike_by_cuts d_alike_by_cuts
  g_alike_by_cuts : mg "alike_by_cuts" = some (.ref f_alike_by_cuts)
  b_alike_by_cuts : Binds K d_alike_by_cuts ["net", "turning"] []
  f_row_product : Addr
  d_row_product : FuncData
  F_row_product : Fun K "row_product" "row_product" s_row_product f_row_product d_row_product
  g_row_product : mg "row_product" = some (.ref f_row_product)
  b_row_product : Binds K d_row_product ["one", "other"] []
  f_turned_row : Addr
  d_turned_row : FuncData
  F_turned_row : Fun K "turned_row" "turned_row" s_turned_row f_turned_row d_turned_row
  g_turned_row : mg "turned_row" = some (.ref f_turned_row)
  b_turned_row : Binds K d_turned_row ["row"] []
  f_steps_on : Addr
  d_steps_on : FuncData
  F_steps_on : Fun K "steps_on" "steps_on" s_steps_on f_steps_on d_steps_on
  g_steps_on : mg "steps_on" = some (.ref f_steps_on)
  b_steps_on : Binds K d_steps_on ["frame", "crossing"] []
  f_rings_from : Addr
  d_rings_from : FuncData
  F_rings_from : Fun K "rings_from" "rings_from" s_rings_from f_rings_from d_rings_from
  g_rings_from : mg "rings_from" = some (.ref f_rings_from)
  b_rings_from : Binds K d_rings_from ["frame", "first"] []
  f_simple_ring_rows : Addr
  d_simple_ring_rows : FuncData
  F_simple_ring_rows : Fun K "simple_ring_rows" "simple_ring_rows" s_simple_ring_rows f_simple_ring_rows d_simple_ring_rows
  g_simple_ring_rows : mg "simple_ring_rows" = some (.ref f_simple_ring_rows)
  b_simple_ring_rows : Binds K d_simple_ring_rows ["frame"] []
  f__law_source : Addr
  d__law_source : FuncData
  F__law_source : Fun K "_law_source" "_law_source" s__law_source f__law_source d__law_source
  g__law_source : mg "_law_source" = some (.ref f__law_source)
  b__law_source : Binds K d__law_source ["script"] []
  f__law_pick : Addr
  d__law_pick : FuncData
  F__law_pick : Fun K "_law_pick" "_law_pick" s__law_pick f__law_pick d__law_pick
  g__law_pick : mg "_law_pick" = some (.ref f__law_pick)
  b__law_pick : Binds K d__law_pick ["source", "many"] []
  f__law_of : Addr
  d__law_of : FuncData
  F__law_of : Fun K "_law_of" "_law_of" s__law_of f__law_of d__law_of
  g__law_of : mg "_law_of" = some (.ref f__law_of)
  b__law_of : Binds K d__law_of ["source", "some"] []
  f__law_mixed : Addr
  d__law_mixed : FuncData
  F__law_mixed : Fun K "_law_mixed" "_law_mixed" s__law_mixed f__law_mixed d__law_mixed
  g__law_mixed : mg "_law_mixed" = some (.ref f__law_mixed)
  b__law_mixed : Binds K d__law_mixed ["source", "things"] []
  f__law_hung : Addr
  d__law_hung : FuncData
  F__law_hung : Fun K "_law_hung" "_law_hung" s__law_hung f__law_hung d__law_hung
  g__law_hung : mg "_law_hung" = some (.ref f__law_hung)
  b__law_hung : Binds K d__law_hung ["source", "crossings", "roads"] []
  f__law_rising : Addr
  d__law_rising : FuncData
  F__law_rising : Fun K "_law_rising" "_law_rising" s__law_rising f__law_rising d__law_rising
  g__law_rising : mg "_law_rising" = some (.ref f__law_rising)
  b__law_rising : Binds K d__law_rising ["frame", "heights"] []
  f__law_heights : Addr
  d__law_heights : FuncData
  F__law_heights : Fun K "_law_heights" "_law_heights" s__law_heights f__law_heights d__law_heights
  g__law_heights : mg "_law_heights" = some (.ref f__law_heights)
  b__law_heights : Binds K d__law_heights ["frame", "row"] []
  f__law_all_turnings : Addr
  d__law_all_turnings : FuncData
  F__law_all_turnings : Fun K "_law_all_turnings" "_law_all_turnings" s__law_all_turnings f__law_all_turnings d__law_all_turnings
  g__law_all_turnings : mg "_law_all_turnings" = some (.ref f__law_all_turnings)
  b__law_all_turnings : Binds K d__law_all_turnings ["m"] []
  f__law_signs_of : Addr
  d__law_signs_of : FuncData
  F__law_signs_of : Fun K "_law_signs_of" "_law_signs_of" s__law_signs_of f__law_signs_of d__law_signs_of
  g__law_signs_of : mg "_law_signs_of" = some (.ref f__law_signs_of)
  b__law_signs_of : Binds K d__law_signs_of ["turning"] []
  m_abs : mg "abs" = none
  m_dict : mg "dict" = none
  m_enumerate : mg "enumerate" = none
  m_int : mg "int" = none
  m_len : mg "len" = none
  m_list : mg "list" = none
  m_max : mg "max" = none
  m_min : mg "min" = none
  m_range : mg "range" = none
  m_repr : mg "repr" = none
  m_sorted : mg "sorted" = none
  m_sum : mg "sum" = none
  m_tuple : mg "tuple" = none
  m_zip : mg "zip" = none
  k_MOST_ROWS_nearcuts : ∃ t, mg "MOST_ROWS_nearcuts" = some (.int 2000 t)
  k_MOST_ROWS_simplerows : ∃ t, mg "MOST_ROWS_simplerows" = some (.int 2000 t)
end VL

set_option maxHeartbeats 4000000

/-! The defs of the text do what they mean by data. Printed by gen.py. -/
namespace VL
open PySem PySem.Spec PyProof.Rows L2
theorem ok_heads_by {P : Program} {w : World} {K : PySem.W.Frag} {mg : Str → Option Value} {base : Heap} (M : Ms K mg) : FnG P w K mg base 1 M.f_heads_by M.d_heads_by ["frame", "lot"] (spP 2 sem_heads_by) := by
  refine fnG_of M.F_heads_by sc_heads_by (fun vs H Q E h => spP_len h) (fun cdv A outer s H vs Q E hr h => ?_)
  obtain ⟨B, ds, d, sb, r, hl, e, q⟩ := h
  refine ⟨tB none b_heads_by, ?_, end_P sb r (by rw [hl]; decide) e q⟩
  exact (bcons (sset (ps_set (i := 2) sc_heads_by.nd rfl (by first | exact .inl rfl | exact .inr rfl) (frz (elrg rfl (by rfl) M.m_list (by rfl) M.m_range (eit (nw (pv 0)) (wk ci)))))) (bcons (sfor PassesOwn.never rfl (isq (nv (pv 1))) (gnm (pg_name (i := 3) sc_heads_by.nd rfl (.inl rfl))) (bcons (sto (ps_asg (frz (ecBF (osort hr.u64) (by rfl) M.m_sorted bt_sorted (wcons (wk (frz (elc (own := [("crossing", 7)]) rfl sc_heads_by.nd (isq (eit (wk (eit (nw (pv 0)) (wk ci))) (nw (pv 3)))) (blkOk_by (N := nm_heads_by) (sc := defScope s_heads_by) (by decide +kernel)) (by decide) (fun _ _ _ _ _ => (gnm (pg_name (i := 7) sc_heads_by.nd rfl (by first | exact .inl rfl | exact .inr rfl)))) (fun _ _ _ _ _ => qnil) (fun _ _ _ _ _ => (eit (nw (pv 2)) (nw (pv 7))))))) wnil))) (glst (n := 2) rfl (gcons (gnm (pg_name (i := 4) sc_heads_by.nd rfl (by first | exact .inl rfl | exact .inr rfl))) (gcons (gnm (pg_name (i := 5) sc_heads_by.nd rfl (by first | exact .inl rfl | exact .inr rfl))) gnil))))) (bone (sset (ps_set (i := 2) sc_heads_by.nd rfl (by first | exact .inl rfl | exact .inr rfl) (frz (elc (own := [("head", 6)]) rfl sc_heads_by.nd (isq (nv (pv 2))) (blkOk_by (N := nm_heads_by) (sc := defScope s_heads_by) (by decide +kernel)) (by decide) (fun _ _ _ _ _ => (gnm (pg_name (i := 6) sc_heads_by.nd rfl (by first | exact .inl rfl | exact .inr rfl)))) (fun _ _ _ _ _ => qnil) (fun _ _ _ _ _ => (eif (tcmp (oeq hr.u64) (nw (pv 6)) (nw (pv 5))) (nv (pv 4)) (nv (pv 6))))))))))) (bone (sretw (nw (pv 2))))))
theorem ok_pieces_by {P : Program} {w : World} {K : PySem.W.Frag} {mg : Str → Option Value} {base : Heap} (M : Ms K mg) : FnG P w K mg base 2 M.f_pieces_by M.d_pieces_by ["frame", "lot"] (spP 2 sem_pieces_by) := by
  refine fnG_of M.F_pieces_by sc_pieces_by (fun vs H Q E h => spP_len h) (fun cdv A outer s H vs Q E hr h => ?_)
  obtain ⟨B, ds, d, sb, r, hl, e, q⟩ := h
  refine ⟨tB none b_pieces_by, ?_, end_P sb r (by rw [hl]; decide) e q⟩
  exact (bcons (spar (k1 := .v) (k2 := .o) (ps_parC (i := 2) (j := 3) rfl sc_pieces_by.nd rfl rfl (by first | exact .inl rfl | exact .inr rfl) (.inl rfl) (.inl rfl) (.inl rfl) (pa_cons (ecall ((ok_heads_by M).mono (by decide : 1 ≤ 1)) hr (by rfl) M.g_heads_by M.F_heads_by.kp M.b_heads_by (acons (nv (pv 0)) (acons (nv (pv 1)) anil))) (pa_cons (elstF anil) pa_nil)) (by rfl))) (bcons (sfor PassesOwn.never rfl (irg1 (by rfl) M.m_range (acons (eit (nw (pv 0)) (wk ci)) anil)) (gnm (pg_name (i := 4) sc_pieces_by.nd rfl (by first | exact .inl rfl | exact .inr rfl))) (bone (sif (tcmp (oeq hr.u64) (wk (eit (nw (pv 2)) (nw (pv 4)))) (nw (pv 4))) (bone (sapp (pv 3) (ecT otuple (by rfl) M.m_tuple bt_tuple (wcons (wk (frz (elc (own := [("crossing", 5)]) rfl sc_pieces_by.nd (irg1 (by rfl) M.m_range (acons (eit (nw (pv 0)) (wk ci)) anil)) (blkOk_by (N := nm_pieces_by) (sc := defScope s_pieces_by) (by decide +kernel)) (by decide) (fun _ _ _ _ _ => (gnm (pg_name (i := 5) sc_pieces_by.nd rfl (by first | exact .inl rfl | exact .inr rfl)))) (fun _ _ _ _ _ => (qone (tcmp (oeq hr.u64) (wk (eit (nw (pv 2)) (nw (pv 5)))) (nw (pv 4))))) (fun _ _ _ _ _ => (nv (pv 5)))))) wnil)))) bnil))) (bone (sret (ecT otuple (by rfl) M.m_tuple bt_tuple (wcons (nw (pv 3)) wnil))))))
theorem ok_piece_count {P : Program} {w : World} {K : PySem.W.Frag} {mg : Str → Option Value} {base : Heap} (M : Ms K mg) : FnG P w K mg base 3 M.f_piece_count M.d_piece_count ["frame", "lot"] (spP 2 sem_piece_count) := by
  refine fnG_of M.F_piece_count sc_piece_count (fun vs H Q E h => spP_len h) (fun cdv A outer s H vs Q E hr h => ?_)
  obtain ⟨B, ds, d, sb, r, hl, e, q⟩ := h
  refine ⟨tB none b_piece_count, ?_, end_P sb r (by rw [hl]; decide) e q⟩
  exact (bone (sret (ecB olen (by rfl) M.m_len bt_len (wcons (wk (ecall ((ok_pieces_by M).mono (by decide : 2 ≤ 2)) hr (by rfl) M.g_pieces_by M.F_pieces_by.kp M.b_pieces_by (acons (nv (pv 0)) (acons (nv (pv 1)) anil)))) wnil))))
theorem ok_row_of_lot {P : Program} {w : World} {K : PySem.W.Frag} {mg : Str → Option Value} {base : Heap} (M : Ms K mg) : FnG P w K mg base 1 M.f_row_of_lot M.d_row_of_lot ["net", "lot"] (spP 2 sem_row_of_lot) := by
  refine fnG_of M.F_row_of_lot sc_row_of_lot (fun vs H Q E h => spP_len h) (fun cdv A outer s H vs Q E hr h => ?_)
  obtain ⟨B, ds, d, sb, r, hl, e, q⟩ := h
  refine ⟨tB none b_row_of_lot, ?_, end_P sb r (by rw [hl]; decide) e q⟩
  exact (bone (sret (ecT otuple (by rfl) M.m_tuple bt_tuple (wcons (wk (frz (elc (own := [("a", 2), ("b", 3)]) rfl sc_row_of_lot.nd (isq (eit (nw (pv 0)) (wk ci))) (blkOk_by (N := nm_row_of_lot) (sc := defScope s_row_of_lot) (by decide +kernel)) (by decide) (fun _ _ _ _ _ => (gtup (n := 2) rfl (gcons (gnm (pg_name (i := 2) sc_row_of_lot.nd rfl (by first | exact .inl rfl | exact .inr rfl))) (gcons (gnm (pg_name (i := 3) sc_row_of_lot.nd rfl (by first | exact .inl rfl | exact .inr rfl))) gnil)))) (fun _ _ _ _ _ => qnil) (fun _ _ _ _ _ => (eop osub (wk (ecT oint (by rfl) M.m_int bt_int (wcons (wk (ecmp (oin hr.u64) (nw (pv 2)) (nw (pv 1)))) wnil))) (wk (ecT oint (by rfl) M.m_int bt_int (wcons (wk (ecmp (oin hr.u64) (nw (pv 3)) (nw (pv 1)))) wnil)))))))) wnil))))
theorem ok_is_one_way_cut {P : Program} {w : World} {K : PySem.W.Frag} {mg : Str → Option Value} {base : Heap} (M : Ms K mg) : FnG P w K mg base 2 M.f_is_one_way_cut M.d_is_one_way_cut ["net", "marks", "lot"] (spP 3 sem_is_one_way_cut) := by
  refine fnG_of M.F_is_one_way_cut sc_is_one_way_cut (fun vs H Q E h => spP_len h) (fun cdv A outer s H vs Q E hr h => ?_)
  obtain ⟨B, ds, d, sb, r, hl, e, q⟩ := h
  refine ⟨tB none b_is_one_way_cut, ?_, end_P sb r (by rw [hl]; decide) e q⟩
  exact (bcons (sset (ps_set (i := 3) sc_is_one_way_cut.nd rfl (.inl rfl) (ecall ((ok_row_of_lot M).mono (by decide : 1 ≤ 1)) hr (by rfl) M.g_row_of_lot M.F_row_of_lot.kp M.b_row_of_lot (acons (nv (pv 0)) (acons (nv (pv 2)) anil))))) (bone (sret (ecmp (oeq hr.u64) (wk (frz (elc (own := [("road", 4), ("number", 5)]) rfl sc_is_one_way_cut.nd (ien (by rfl) M.m_enumerate (nv (pv 3))) (blkOk_by (N := nm_is_one_way_cut) (sc := defScope s_is_one_way_cut) (by decide +kernel)) (by decide) (fun _ _ _ _ _ => (gtup (n := 2) rfl (gcons (gnm (pg_name (i := 4) sc_is_one_way_cut.nd rfl (by first | exact .inl rfl | exact .inr rfl))) (gcons (gnm (pg_name (i := 5) sc_is_one_way_cut.nd rfl (by first | exact .inl rfl | exact .inr rfl))) gnil)))) (fun _ _ _ _ _ => (qone (PW.pt (wand (tcmp (one hr.u64) (nw (pv 5)) (wk ci)) (wand1 (tcmp (one hr.u64) (wk (eit (nw (pv 1)) (nw (pv 4)))) (nw (pv 5)))))))) (fun _ _ _ _ _ => ci)))) (wk (frz (elstF anil)))))))
theorem ok_all_crossing_lots {P : Program} {w : World} {K : PySem.W.Frag} {mg : Str → Option Value} {base : Heap} (M : Ms K mg) : FnG P w K mg base 1 M.f_all_crossing_lots M.d_all_crossing_lots ["n"] (spP 1 sem_all_crossing_lots) := by
  refine fnG_of M.F_all_crossing_lots sc_all_crossing_lots (fun vs H Q E h => spP_len h) (fun cdv A outer s H vs Q E hr h => ?_)
  obtain ⟨B, ds, d, sb, r, hl, e, q⟩ := h
  refine ⟨tB none b_all_crossing_lots, ?_, end_P sb r (by rw [hl]; decide) e q⟩
  exact (bcons (sset (ps_set (i := 1) sc_all_crossing_lots.nd rfl (.inl rfl) (frz (elstF (acons (etup (acons ci anil)) anil))))) (bcons (sfor PassesOwn.never rfl (irg2 (by rfl) M.m_range (acons ci (acons (nv (pv 0)) anil))) (gnm (pg_name (i := 2) sc_all_crossing_lots.nd rfl (by first | exact .inl rfl | exact .inr rfl))) (bone (sset (ps_set (i := 1) sc_all_crossing_lots.nd rfl (.inl rfl) (eop oadd (nw (pv 1)) (wk (frz (elc (own := [("lot", 3)]) rfl sc_all_crossing_lots.nd (isq (nv (pv 1))) (blkOk_by (N := nm_all_crossing_lots) (sc := defScope s_all_crossing_lots) (by decide +kernel)) (by decide) (fun _ _ _ _ _ => (gnm (pg_name (i := 3) sc_all_crossing_lots.nd rfl (by first | exact .inl rfl | exact .inr rfl)))) (fun _ _ _ _ _ => qnil) (fun _ _ _ _ _ => (etup (astar (nv (pv 3)) (acons (nv (pv 2)) anil)))))))))))) (bone (sret (frz (elc (own := [("lot", 3)]) rfl sc_all_crossing_lots.nd (isq (nv (pv 1))) (blkOk_by (N := nm_all_crossing_lots) (sc := defScope s_all_crossing_lots) (by decide +kernel)) (by decide) (fun _ _ _ _ _ => (gnm (pg_name (i := 3) sc_all_crossing_lots.nd rfl (by first | exact .inl rfl | exact .inr rfl)))) (fun _ _ _ _ _ => (qone (tcmp (olt hr.u64) (wk (ecB olen (by rfl) M.m_len bt_len (wcons (nw (pv 3)) wnil))) (nw (pv 0))))) (fun _ _ _ _ _ => (nv (pv 3)))))))))
theorem ok_hangs_within {P : Program} {w : World} {K : PySem.W.Frag} {mg : Str → Option Value} {base : Heap} (M : Ms K mg) : FnG P w K mg base 4 M.f_hangs_within M.d_hangs_within ["net", "lot"] (spP 2 sem_hangs_within) := by
  refine fnG_of M.F_hangs_within sc_hangs_within (fun vs H Q E h => spP_len h) (fun cdv A outer s H vs Q E hr h => ?_)
  obtain ⟨B, ds, d, sb, r, hl, e, q⟩ := h
  refine ⟨tB none b_hangs_within, ?_, end_P sb r (by rw [hl]; decide) e q⟩
  exact (bcons (sset (ps_set (i := 2) sc_hangs_within.nd rfl (.inl rfl) (ecT otuple (by rfl) M.m_tuple bt_tuple (wcons (wk (frz (elc (own := [("road", 3), ("a", 4), ("b", 5)]) rfl sc_hangs_within.nd (ien (by rfl) M.m_enumerate (eit (nw (pv 0)) (wk ci))) (blkOk_by (N := nm_hangs_within) (sc := defScope s_hangs_within) (by decide +kernel)) (by decide) (fun _ _ _ _ _ => (gtup (n := 2) rfl (gcons (gnm (pg_name (i := 3) sc_hangs_within.nd rfl (by first | exact .inl rfl | exact .inr rfl))) (gcons (gtup (n := 2) rfl (gcons (gnm (pg_name (i := 4) sc_hangs_within.nd rfl (by first | exact .inl rfl | exact .inr rfl))) (gcons (gnm (pg_name (i := 5) sc_hangs_within.nd rfl (by first | exact .inl rfl | exact .inr rfl))) gnil))) gnil)))) (fun _ _ _ _ _ => (qone (PW.pt (wand (tcmp (oin hr.u64) (nw (pv 4)) (nw (pv 1))) (wand1 (tcmp (oin hr.u64) (nw (pv 5)) (nw (pv 1)))))))) (fun _ _ _ _ _ => (nv (pv 3)))))) wnil)))) (bone (sret (ecmp (oeq hr.u64) (wk (ecall ((ok_piece_count M).mono (by decide : 3 ≤ 3)) hr (by rfl) M.g_piece_count M.F_piece_count.kp M.b_piece_count (acons (etup (acons (eit (nw (pv 0)) (wk ci)) (acons (eit (nw (pv 0)) (wk ci)) anil))) (acons (nv (pv 2)) anil)))) (wk (eop oadd (wk (eop osub (wk (eit (nw (pv 0)) (wk ci))) (wk (ecB olen (by rfl) M.m_len bt_len (wcons (nw (pv 1)) wnil))))) (wk ci)))))))
theorem ok_least_cut_parts {P : Program} {w : World} {K : PySem.W.Frag} {mg : Str → Option Value} {base : Heap} (M : Ms K mg) : FnG P w K mg base 5 M.f_least_cut_parts M.d_least_cut_parts ["net"] (spP 1 sem_least_cut_parts) := by
  refine fnG_of M.F_least_cut_parts sc_least_cut_parts (fun vs H Q E h => spP_len h) (fun cdv A outer s H vs Q E hr h => ?_)
  obtain ⟨B, ds, d, sb, r, hl, e, q⟩ := h
  refine ⟨tB none b_least_cut_parts, ?_, end_P sb r (by rw [hl]; decide) e q⟩
  exact (bcons (sown (ps_set (i := 1) sc_least_cut_parts.nd rfl (.inl rfl) (elstF anil))) (bcons (sfor PassesOwn.never rfl (isq (ecall ((ok_all_crossing_lots M).mono (by decide : 1 ≤ 4)) hr (by rfl) M.g_all_crossing_lots M.F_all_crossing_lots.kp M.b_all_crossing_lots (acons (eit (nw (pv 0)) (wk ci)) anil))) (gnm (pg_name (i := 2) sc_least_cut_parts.nd rfl (by first | exact .inl rfl | exact .inr rfl))) (bcons (sset (ps_set (i := 3) sc_least_cut_parts.nd rfl (.inl rfl) (ecT otuple (by rfl) M.m_tuple bt_tuple (wcons (wk (frz (elc (own := [("crossing", 4)]) rfl sc_least_cut_parts.nd (irg1 (by rfl) M.m_range (acons (eit (nw (pv 0)) (wk ci)) anil)) (blkOk_by (N := nm_least_cut_parts) (sc := defScope s_least_cut_parts) (by decide +kernel)) (by decide) (fun _ _ _ _ _ => (gnm (pg_name (i := 4) sc_least_cut_parts.nd rfl (by first | exact .inl rfl | exact .inr rfl)))) (fun _ _ _ _ _ => (qone (tcmp (onotin hr.u64) (nw (pv 4)) (nw (pv 2))))) (fun _ _ _ _ _ => (nv (pv 4)))))) wnil)))) (bone (sif (PW.pt (wand (tval (ecall ((ok_hangs_within M).mono (by decide : 4 ≤ 4)) hr (by rfl) M.g_hangs_within M.F_hangs_within.kp M.b_hangs_within (acons (nv (pv 0)) (acons (nv (pv 2)) anil)))) (wand1 (tval (ecall ((ok_hangs_within M).mono (by decide : 4 ≤ 4)) hr (by rfl) M.g_hangs_within M.F_hangs_within.kp M.b_hangs_within (acons (nv (pv 0)) (acons (nv (pv 3)) anil))))))) (bone (sext (pv 1) (frz (elstF (acons (ecall ((ok_row_of_lot M).mono (by decide : 1 ≤ 4)) hr (by rfl) M.g_row_of_lot M.F_row_of_lot.kp M.b_row_of_lot (acons (nv (pv 0)) (acons (nv (pv 2)) anil))) (acons (ecall ((ok_row_of_lot M).mono (by decide : 1 ≤ 4)) hr (by rfl) M.g_row_of_lot M.F_row_of_lot.kp M.b_row_of_lot (acons (nv (pv 0)) (acons (nv (pv 3)) anil))) anil)))))) bnil)))) (bone (sret (ecT otuple (by rfl) M.m_tuple bt_tuple (wcons (wk (frz (ecBF (osort hr.u64) (by rfl) M.m_sorted bt_sorted (wcons (nw (pv 1)) wnil)))) wnil))))))
end VL

set_option maxHeartbeats 4000000

/-! The defs of the text do what they mean by data. Printed by gen.py. -/
namespace VL
open PySem PySem.Spec PyProof.Rows L2
theorem ok_rest_row {P : Program} {w : World} {K : PySem.W.Frag} {mg : Str → Option Value} {base : Heap} (M : Ms K mg) : FnG P w K mg base 1 M.f_rest_row M.d_rest_row ["y", "f"] (spP 2 sem_rest_row) := by
  refine fnG_of M.F_rest_row sc_rest_row (fun vs H Q E h => spP_len h) (fun cdv A outer s H vs Q E hr h => ?_)
  obtain ⟨B, ds, d, sb, r, hl, e, q⟩ := h
  refine ⟨tB none b_rest_row, ?_, end_P sb r (by rw [hl]; decide) e q⟩
  exact (bcons (sto (ps_asg (nv (pv 0)) (gtup (n := 2) rfl (gcons (gnm (pg_name (i := 2) sc_rest_row.nd rfl (.inl rfl))) (gcons (gnm (pg_name (i := 3) sc_rest_row.nd rfl (by first | exact .inl rfl | exact .inr rfl))) gnil))))) (bone (sret (ecT otuple (by rfl) M.m_tuple bt_tuple (wcons (wk (frz (elc (own := [("one", 4), ("other", 5)]) rfl sc_rest_row.nd (izps (kc := none) (by rfl) M.m_zip (acons (nv (pv 2)) (acons (nv (pv 1)) anil)) (hb := pe_bl)) (blkOk_by (N := nm_rest_row) (sc := defScope s_rest_row) (by decide +kernel)) (by decide) (fun _ _ _ _ _ => (gtup (n := 2) rfl (gcons (gnm (pg_name (i := 4) sc_rest_row.nd rfl (by first | exact .inl rfl | exact .inr rfl))) (gcons (gnm (pg_name (i := 5) sc_rest_row.nd rfl (by first | exact .inl rfl | exact .inr rfl))) gnil)))) (fun _ _ _ _ _ => qnil) (fun _ _ _ _ _ => (eop osub (wk (eop omul (wk ci) (nw (pv 4)))) (wk (eop omul (wk (eop omul (wk ci) (nw (pv 3)))) (nw (pv 5))))))))) wnil)))))
theorem ok_cut_near_paper {P : Program} {w : World} {K : PySem.W.Frag} {mg : Str → Option Value} {base : Heap} (M : Ms K mg) : FnG P w K mg base 2 M.f_cut_near_paper M.d_cut_near_paper ["net", "y", "k"] (spP 3 sem_cut_near_paper) := by
  refine fnG_of M.F_cut_near_paper sc_cut_near_paper (fun vs H Q E h => spP_len h) (fun cdv A outer s H vs Q E hr h => ?_)
  obtain ⟨B, ds, d, sb, r, hl, e, q⟩ := h
  refine ⟨tB none b_cut_near_paper, ?_, end_P sb r (by rw [hl]; decide) e q⟩
  exact (bcons (spar (k1 := .v) (k2 := .v) (ps_parC (i := 3) (j := 4) rfl sc_cut_near_paper.nd rfl rfl (by first | exact .inl rfl | exact .inr rfl) (by first | exact .inl rfl | exact .inr rfl) (.inl rfl) (.inl rfl) (pa_cons (frz (ecTF olist (by rfl) M.m_list bt_list (wcons (wk (ecall ((ok_rest_row M).mono (by decide : 1 ≤ 1)) hr (by rfl) M.g_rest_row M.F_rest_row.kp M.b_rest_row (acons (nv (pv 1)) (acons (nv (pv 2)) anil)))) wnil))) (pa_cons (eit (nw (pv 1)) (wk ci)) pa_nil)) (by rfl))) (bcons (spar (k1 := .v) (k2 := .v) (ps_par (i := 6) (j := 7) rfl sc_cut_near_paper.nd rfl rfl (by decide) rfl rfl (pa_cons (eop omul (wk (frz (elstF (acons ci anil)))) (wk (ecB olen (by rfl) M.m_len bt_len (wcons (nw (pv 3)) wnil)))) (pa_cons (frz (elc (own := [("road", 5), ("number", 14)]) rfl sc_cut_near_paper.nd (ien (by rfl) M.m_enumerate (nv (pv 3))) (blkOk_by (N := nm_cut_near_paper) (sc := defScope s_cut_near_paper) (by decide +kernel)) (by decide) (fun _ _ _ _ _ => (gtup (n := 2) rfl (gcons (gnm (pg_name (i := 5) sc_cut_near_paper.nd rfl (by first | exact .inl rfl | exact .inr rfl))) (gcons (gnm (pg_name (i := 14) sc_cut_near_paper.nd rfl (by first | exact .inl rfl | exact .inr rfl))) gnil)))) (fun _ _ _ _ _ => (qone (tcmp (ogt hr.u64) (wk (ecB oabs (by rfl) M.m_abs bt_abs (wcons (nw (pv 14)) wnil))) (nw (pv 4))))) (fun _ _ _ _ _ => (nv (pv 5))))) pa_nil)) (by rfl))) (bcons (swhile fuel_cut_near_paper PassesOwn.never (tcmp (one hr.u64) (nw (pv 7)) (wk (frz (elstF anil)))) bdead) (bone (sret (etup (acons cs (acons (ecT otuple (by rfl) M.m_tuple bt_tuple (wcons (nw (pv 6)) wnil)) anil))))))))
theorem ok_nearest_cut_row {P : Program} {w : World} {K : PySem.W.Frag} {mg : Str → Option Value} {base : Heap} (M : Ms K mg) : FnG P w K mg base 3 M.f_nearest_cut_row M.d_nearest_cut_row ["net", "y"] (spP 2 sem_nearest_cut_row) := by
  refine fnG_of M.F_nearest_cut_row sc_nearest_cut_row (fun vs H Q E h => spP_len h) (fun cdv A outer s H vs Q E hr h => ?_)
  obtain ⟨B, ds, d, sb, r, hl, e, q⟩ := h
  refine ⟨tB none b_nearest_cut_row, ?_, end_P sb r (by rw [hl]; decide) e q⟩
  exact (bcons (sset (ps_set (i := 2) sc_nearest_cut_row.nd rfl (.inl rfl) (eop omulT (wk (etup (acons ci anil))) (wk (ecB olen (by rfl) M.m_len bt_len (wcons (wk (eit (nw (pv 0)) (wk ci))) wnil)))))) (bcons (sset (ps_set (i := 3) sc_nearest_cut_row.nd rfl (.inl rfl) (ecall ((ok_cut_near_paper M).mono (by decide : 2 ≤ 2)) hr (by rfl) M.g_cut_near_paper M.F_cut_near_paper.kp M.b_cut_near_paper (acons (nv (pv 0)) (acons (nv (pv 1)) (acons (nv (pv 2)) anil)))))) (bcons (swhile fuel_nearest_cut_row PassesOwn.never (tcmp (oeq hr.u64) (wk (eit (nw (pv 3)) (wk ci))) (wk cs)) bdead) (bone (sretw (nw (pv 2)))))))
theorem ok_nearest_cut_rows {P : Program} {w : World} {K : PySem.W.Frag} {mg : Str → Option Value} {base : Heap} (M : Ms K mg) : FnG P w K mg base 6 M.f_nearest_cut_rows M.d_nearest_cut_rows ["net", "y"] (spP 2 sem_nearest_cut_rows) := by
  refine fnG_of M.F_nearest_cut_rows sc_nearest_cut_rows (fun vs H Q E h => spP_len h) (fun cdv A outer s H vs Q E hr h => ?_)
  obtain ⟨B, ds, d, sb, r, hl, e, q⟩ := h
  refine ⟨tB none b_nearest_cut_rows, ?_, end_P sb r (by rw [hl]; decide) e q⟩
  exact (bcons (spar (k1 := .v) (k2 := .v) (ps_par (i := 2) (j := 3) rfl sc_nearest_cut_rows.nd rfl rfl (by decide) rfl rfl (pa_cons (ecall ((ok_nearest_cut_row M).mono (by decide : 3 ≤ 5)) hr (by rfl) M.g_nearest_cut_row M.F_nearest_cut_row.kp M.b_nearest_cut_row (acons (nv (pv 0)) (acons (nv (pv 1)) anil))) (pa_cons (ecall ((ok_least_cut_parts M).mono (by decide : 5 ≤ 5)) hr (by rfl) M.g_least_cut_parts M.F_least_cut_parts.kp M.b_least_cut_parts (acons (nv (pv 0)) anil)) pa_nil)) (by rfl))) (bcons (spar (k1 := .o) (k2 := .o) (ps_par (i := 4) (j := 5) rfl sc_nearest_cut_rows.nd rfl rfl (by decide) rfl rfl (pa_cons (ediT hr.u64 (nv (pv 2)) cb) (pa_cons (elstF (acons (nv (pv 2)) anil)) pa_nil)) (by rfl))) (bcons (swhile fuel_nearest_cut_rows PassesOwn.never (tcmp (one hr.u64) (nw (pv 5)) (wk (frz (elstF anil)))) (bcons (spopL (j := 5) (ps_set (i := 6) sc_nearest_cut_rows.nd rfl (.inl rfl) (pe_bm0 PySem.F.plainAttrs_list PySem.F.slot_list_pop PySem.F.type_list_pop mt_pop (pv 5)))) (bcons (sset (ps_set (i := 7) sc_nearest_cut_rows.nd rfl (.inl rfl) (ecall ((ok_rest_row M).mono (by decide : 1 ≤ 5)) hr (by rfl) M.g_rest_row M.F_rest_row.kp M.b_rest_row (acons (nv (pv 1)) (acons (nv (pv 6)) anil))))) (bcons (sfor PassesOwn.never rfl (isq (nv (pv 3))) (gnm (pg_name (i := 8) sc_nearest_cut_rows.nd rfl (.inl rfl))) (bcons (sset (ps_set (i := 9) sc_nearest_cut_rows.nd rfl (.inl rfl) (ecT otuple (by rfl) M.m_tuple bt_tuple (wcons (wk (frz (elc (own := [("a", 11), ("b", 12)]) rfl sc_nearest_cut_rows.nd (izps (kc := none) (by rfl) M.m_zip (acons (nv (pv 6)) (acons (nv (pv 8)) anil)) (hb := pe_bl)) (blkOk_by (N := nm_nearest_cut_rows) (sc := defScope s_nearest_cut_rows) (by decide +kernel)) (by decide) (fun _ _ _ _ _ => (gtup (n := 2) rfl (gcons (gnm (pg_name (i := 11) sc_nearest_cut_rows.nd rfl (by first | exact .inl rfl | exact .inr rfl))) (gcons (gnm (pg_name (i := 12) sc_nearest_cut_rows.nd rfl (by first | exact .inl rfl | exact .inr rfl))) gnil)))) (fun _ _ _ _ _ => qnil) (fun _ _ _ _ _ => (eop oadd (nw (pv 11)) (nw (pv 12))))))) wnil)))) (bcons (sset (ps_set (i := 10) sc_nearest_cut_rows.nd rfl (.inl rfl) (ecB (osum rfl) (by rfl) M.m_sum bt_sum (wcons (wk (frz (elc (own := [("a", 11), ("b", 12)]) rfl sc_nearest_cut_rows.nd (izps (kc := none) (by rfl) M.m_zip (acons (nv (pv 7)) (acons (nv (pv 8)) anil)) (hb := pe_bl)) (blkOk_by (N := nm_nearest_cut_rows) (sc := defScope s_nearest_cut_rows) (by decide +kernel)) (by decide) (fun _ _ _ _ _ => (gtup (n := 2) rfl (gcons (gnm (pg_name (i := 11) sc_nearest_cut_rows.nd rfl (by first | exact .inl rfl | exact .inr rfl))) (gcons (gnm (pg_name (i := 12) sc_nearest_cut_rows.nd rfl (by first | exact .inl rfl | exact .inr rfl))) gnil)))) (fun _ _ _ _ _ => qnil) (fun _ _ _ _ _ => (eop omul (nw (pv 11)) (nw (pv 12))))))) wnil)))) (bone (sif (PW.pt (wand (tcmp (oeq hr.u64) (nw (pv 10)) (wk (eop omul (wk (eit (nw (pv 1)) (wk ci))) (wk (ecB (osum rfl) (by rfl) M.m_sum bt_sum (wcons (wk (frz (elc (own := [("one", 13)]) rfl sc_nearest_cut_rows.nd (isq (nv (pv 8))) (blkOk_by (N := nm_nearest_cut_rows) (sc := defScope s_nearest_cut_rows) (by decide +kernel)) (by decide) (fun _ _ _ _ _ => (gnm (pg_name (i := 13) sc_nearest_cut_rows.nd rfl (by first | exact .inl rfl | exact .inr rfl)))) (fun _ _ _ _ _ => qnil) (fun _ _ _ _ _ => (ecB oabs (by rfl) M.m_abs bt_abs (wcons (nw (pv 13)) wnil)))))) wnil)))))) (wand1 (tcmp (onotin hr.u64) (nw (pv 9)) (nw (pv 4)))))) (bcons (sput hr.u1 (pv 4) (nv (pv 9)) cb) (bone (sapp (pv 5) (nv (pv 9))))) bnil))))) (bone (sif (tcmp (ogt hr.u64) (wk (ecB olenT (by rfl) M.m_len bt_len (wcons (nw (pv 4)) wnil))) (wk (cgl (by rfl) M.k_MOST_ROWS_nearcuts))) bdead bnil)))))) (bone (sret (frz (esdT rfl hr.u64 (by rfl) M.m_sorted (nw (pv 4)))))))))
theorem ok_alike_by_cuts {P : Program} {w : World} {K : PySem.W.Frag} {mg : Str → Option Value} {base : Heap} (M : Ms K mg) : FnG P w K mg base 3 M.f_alike_by_cuts M.d_alike_by_cuts ["net", "turning"] (spP 2 sem_alike_by_cuts) := by
  refine fnG_of M.F_alike_by_cuts sc_alike_by_cuts (fun vs H Q E h => spP_len h) (fun cdv A outer s H vs Q E hr h => ?_)
  obtain ⟨B, ds, d, sb, r, hl, e, q⟩ := h
  refine ⟨tB none b_alike_by_cuts, ?_, end_P sb r (by rw [hl]; decide) e q⟩
  exact (bcons (spar3 (k2 := .o) (k3 := .o) (ps_par3 (i := 2) (j := 3) (l := 4) rfl sc_alike_by_cuts.nd rfl rfl rfl (by decide) (by decide) (by decide) rfl rfl rfl (pa_cons (ecall ((ok_all_crossing_lots M).mono (by decide : 1 ≤ 2)) hr (by rfl) M.g_all_crossing_lots M.F_all_crossing_lots.kp M.b_all_crossing_lots (acons (eit (nw (pv 0)) (wk ci)) anil)) (pa_cons (ediT hr.u64 (nv (pv 1)) cb) (pa_cons (elstF (acons (nv (pv 1)) anil)) pa_nil))) (by rfl))) (bcons (swhile fuel_alike_by_cuts PassesOwn.never (tcmp (one hr.u64) (nw (pv 4)) (wk (frz (elstF anil)))) (bcons (spopL (j := 4) (ps_set (i := 5) sc_alike_by_cuts.nd rfl (.inl rfl) (pe_bm0 PySem.F.plainAttrs_list PySem.F.slot_list_pop PySem.F.type_list_pop mt_pop (pv 4)))) (bcons (sset (ps_set (i := 6) sc_alike_by_cuts.nd rfl (.inl rfl) (ecT otuple (by rfl) M.m_tuple bt_tuple (wcons (wk (frz (elc (own := [("mark", 11)]) rfl sc_alike_by_cuts.nd (isq (nv (pv 5))) (blkOk_by (N := nm_alike_by_cuts) (sc := defScope s_alike_by_cuts) (by decide +kernel)) (by decide) (fun _ _ _ _ _ => (gnm (pg_name (i := 11) sc_alike_by_cuts.nd rfl (by first | exact .inl rfl | exact .inr rfl)))) (fun _ _ _ _ _ => qnil) (fun _ _ _ _ _ => (eop osub (wk ci) (wk (eop omul (wk ci) (nw (pv 11))))))))) wnil)))) (bcons (sfor PassesOwn.never rfl (isq (nv (pv 2))) (gnm (pg_name (i := 7) sc_alike_by_cuts.nd rfl (.inl rfl))) (bcons (sset (ps_set (i := 8) sc_alike_by_cuts.nd rfl (.inl rfl) (ecall ((ok_row_of_lot M).mono (by decide : 1 ≤ 2)) hr (by rfl) M.g_row_of_lot M.F_row_of_lot.kp M.b_row_of_lot (acons (nv (pv 0)) (acons (nv (pv 7)) anil))))) (bcons (sset (ps_set (i := 9) sc_alike_by_cuts.nd rfl (.inl rfl) (ecT otuple (by rfl) M.m_tuple bt_tuple (wcons (wk (frz (elc (own := [("sign", 12)]) rfl sc_alike_by_cuts.nd (isq (nv (pv 6))) (blkOk_by (N := nm_alike_by_cuts) (sc := defScope s_alike_by_cuts) (by decide +kernel)) (by decide) (fun _ _ _ _ _ => (gnm (pg_name (i := 12) sc_alike_by_cuts.nd rfl (by first | exact .inl rfl | exact .inr rfl)))) (fun _ _ _ _ _ => qnil) (fun _ _ _ _ _ => (eun oneg (nw (pv 12))))))) wnil)))) (bone (sif (PW.pt (wor (tval (ecall ((ok_is_one_way_cut M).mono (by decide : 2 ≤ 2)) hr (by rfl) M.g_is_one_way_cut M.F_is_one_way_cut.kp M.b_is_one_way_cut (acons (nv (pv 0)) (acons (nv (pv 6)) (acons (nv (pv 7)) anil))))) (wor1 (tval (ecall ((ok_is_one_way_cut M).mono (by decide : 2 ≤ 2)) hr (by rfl) M.g_is_one_way_cut M.F_is_one_way_cut.kp M.b_is_one_way_cut (acons (nv (pv 0)) (acons (nv (pv 9)) (acons (nv (pv 7)) anil)))))))) (bcons (sset (ps_set (i := 10) sc_alike_by_cuts.nd rfl (.inl rfl) (ecT otuple (by rfl) M.m_tuple bt_tuple (wcons (wk (frz (elc (own := [("mark", 11), ("number", 13)]) rfl sc_alike_by_cuts.nd (izps (kc := none) (by rfl) M.m_zip (acons (nv (pv 5)) (acons (nv (pv 8)) anil)) (hb := pe_bl)) (blkOk_by (N := nm_alike_by_cuts) (sc := defScope s_alike_by_cuts) (by decide +kernel)) (by decide) (fun _ _ _ _ _ => (gtup (n := 2) rfl (gcons (gnm (pg_name (i := 11) sc_alike_by_cuts.nd rfl (by first | exact .inl rfl | exact .inr rfl))) (gcons (gnm (pg_name (i := 13) sc_alike_by_cuts.nd rfl (by first | exact .inl rfl | exact .inr rfl))) gnil)))) (fun _ _ _ _ _ => qnil) (fun _ _ _ _ _ => (eif (tcmp (one hr.u64) (nw (pv 13)) (wk ci)) (eop osub (wk ci) (nw (pv 11))) (nv (pv 11))))))) wnil)))) (bone (sif (tcmp (onotin hr.u64) (nw (pv 10)) (nw (pv 3))) (bcons (sput hr.u1 (pv 3) (nv (pv 10)) cb) (bone (sapp (pv 4) (nv (pv 10))))) bnil))) bnil))))) (bone (sif (tcmp (ogt hr.u64) (wk (ecB olenT (by rfl) M.m_len bt_len (wcons (nw (pv 3)) wnil))) (wk (cgl (by rfl) M.k_MOST_ROWS_nearcuts))) bdead bnil)))))) (bone (sret (ecT otuple (by rfl) M.m_tuple bt_tuple (wcons (wk (frz (esdT rfl hr.u64 (by rfl) M.m_sorted (nw (pv 3))))) wnil))))))
theorem ok_row_product {P : Program} {w : World} {K : PySem.W.Frag} {mg : Str → Option Value} {base : Heap} (M : Ms K mg) : FnG P w K mg base 1 M.f_row_product M.d_row_product ["one", "other"] (spP 2 sem_row_product) := by
  refine fnG_of M.F_row_product sc_row_product (fun vs H Q E h => spP_len h) (fun cdv A outer s H vs Q E hr h => ?_)
  obtain ⟨B, ds, d, sb, r, hl, e, q⟩ := h
  refine ⟨tB none b_row_product, ?_, end_P sb r (by rw [hl]; decide) e q⟩
  exact (bone (sret (ecB (osum rfl) (by rfl) M.m_sum bt_sum (wcons (wk (frz (elc (own := [("a", 2), ("b", 3)]) rfl sc_row_product.nd (izps (kc := none) (by rfl) M.m_zip (acons (nv (pv 0)) (acons (nv (pv 1)) anil)) (hb := pe_bl)) (blkOk_by (N := nm_row_product) (sc := defScope s_row_product) (by decide +kernel)) (by decide) (fun _ _ _ _ _ => (gtup (n := 2) rfl (gcons (gnm (pg_name (i := 2) sc_row_product.nd rfl (by first | exact .inl rfl | exact .inr rfl))) (gcons (gnm (pg_name (i := 3) sc_row_product.nd rfl (by first | exact .inl rfl | exact .inr rfl))) gnil)))) (fun _ _ _ _ _ => qnil) (fun _ _ _ _ _ => (eop omul (nw (pv 2)) (nw (pv 3))))))) wnil))))
theorem ok_turned_row {P : Program} {w : World} {K : PySem.W.Frag} {mg : Str → Option Value} {base : Heap} (M : Ms K mg) : FnG P w K mg base 1 M.f_turned_row M.d_turned_row ["row"] (spP 1 sem_turned_row) := by
  refine fnG_of M.F_turned_row sc_turned_row (fun vs H Q E h => spP_len h) (fun cdv A outer s H vs Q E hr h => ?_)
  obtain ⟨B, ds, d, sb, r, hl, e, q⟩ := h
  refine ⟨tB none b_turned_row, ?_, end_P sb r (by rw [hl]; decide) e q⟩
  exact (bone (sret (ecT otuple (by rfl) M.m_tuple bt_tuple (wcons (wk (frz (elc (own := [("number", 1)]) rfl sc_turned_row.nd (isq (nv (pv 0))) (blkOk_by (N := nm_turned_row) (sc := defScope s_turned_row) (by decide +kernel)) (by decide) (fun _ _ _ _ _ => (gnm (pg_name (i := 1) sc_turned_row.nd rfl (by first | exact .inl rfl | exact .inr rfl)))) (fun _ _ _ _ _ => qnil) (fun _ _ _ _ _ => (eun oneg (nw (pv 1))))))) wnil))))
end VL

set_option maxHeartbeats 4000000

/-! The defs of the text do what they mean by data. Printed by gen.py. -/
namespace VL
open PySem PySem.Spec PyProof.Rows L2
theorem ok_steps_on {P : Program} {w : World} {K : PySem.W.Frag} {mg : Str → Option Value} {base : Heap} (M : Ms K mg) : FnG P w K mg base 1 M.f_steps_on M.d_steps_on ["frame", "crossing"] (spP 2 sem_steps_on) := by
  refine fnG_of M.F_steps_on sc_steps_on (fun vs H Q E h => spP_len h) (fun cdv A outer s H vs Q E hr h => ?_)
  obtain ⟨B, ds, d, sb, r, hl, e, q⟩ := h
  refine ⟨tB none b_steps_on, ?_, end_P sb r (by rw [hl]; decide) e q⟩
  exact (bcons (sown (ps_set (i := 2) sc_steps_on.nd rfl (.inl rfl) (elstF anil))) (bcons (sfor PassesOwn.never rfl (ien (by rfl) M.m_enumerate (eit (nw (pv 0)) (wk ci))) (gtup (n := 2) rfl (gcons (gnm (pg_name (i := 3) sc_steps_on.nd rfl (.inl rfl))) (gcons (gtup (n := 2) rfl (gcons (gnm (pg_name (i := 4) sc_steps_on.nd rfl (.inl rfl))) (gcons (gnm (pg_name (i := 5) sc_steps_on.nd rfl (.inl rfl))) gnil))) gnil))) (bcons (sif (tcmp (oeq hr.u64) (nw (pv 4)) (nw (pv 1))) (bone (sapp (pv 2) (etup (acons (nv (pv 3)) (acons ci (acons (nv (pv 5)) anil)))))) bnil) (bone (sif (tcmp (oeq hr.u64) (nw (pv 5)) (nw (pv 1))) (bone (sapp (pv 2) (etup (acons (nv (pv 3)) (acons (eun oneg (wk ci)) (acons (nv (pv 4)) anil)))))) bnil)))) (bone (sretw (nw (pv 2))))))
theorem ok_rings_from {P : Program} {w : World} {K : PySem.W.Frag} {mg : Str → Option Value} {base : Heap} (M : Ms K mg) : FnG P w K mg base 2 M.f_rings_from M.d_rings_from ["frame", "first"] (spP 2 sem_rings_from) := by
  refine fnG_of M.F_rings_from sc_rings_from (fun vs H Q E h => spP_len h) (fun cdv A outer s H vs Q E hr h => ?_)
  obtain ⟨B, ds, d, sb, r, hl, e, q⟩ := h
  refine ⟨tB none b_rings_from, ?_, end_P sb r (by rw [hl]; decide) e q⟩
  exact (bcons (sto (ps_asg (eit (wk (eit (nw (pv 0)) (wk ci))) (nw (pv 1))) (gtup (n := 2) rfl (gcons (gnm (pg_name (i := 2) sc_rings_from.nd rfl (.inl rfl))) (gcons (gnm (pg_name (i := 3) sc_rings_from.nd rfl (.inl rfl))) gnil))))) (bcons (sset (ps_set (i := 5) sc_rings_from.nd rfl (.inl rfl) (ecT otuple (by rfl) M.m_tuple bt_tuple (wcons (wk (frz (elc (own := [("road", 4)]) rfl sc_rings_from.nd (irg1 (by rfl) M.m_range (acons (ecB olen (by rfl) M.m_len bt_len (wcons (wk (eit (nw (pv 0)) (wk ci))) wnil)) anil)) (blkOk_by (N := nm_rings_from) (sc := defScope s_rings_from) (by decide +kernel)) (by decide) (fun _ _ _ _ _ => (gnm (pg_name (i := 4) sc_rings_from.nd rfl (by first | exact .inl rfl | exact .inr rfl)))) (fun _ _ _ _ _ => qnil) (fun _ _ _ _ _ => (ecT oint (by rfl) M.m_int bt_int (wcons (wk (ecmp (oeq hr.u64) (nw (pv 4)) (nw (pv 1)))) wnil)))))) wnil)))) (bcons (sif (tcmp (oeq hr.u64) (nw (pv 2)) (nw (pv 3))) (bone (sret (frz (elstF (acons (nv (pv 5)) anil))))) bnil) (bcons (spar (k1 := .o) (k2 := .v) (ps_par (i := 6) (j := 7) rfl sc_rings_from.nd rfl rfl (by decide) rfl rfl (pa_cons (elstF anil) (pa_cons (frz (elstF (acons (etup (acons (nv (pv 5)) (acons (nv (pv 3)) (acons (etup (acons (nv (pv 3)) anil)) anil)))) anil))) pa_nil)) (by rfl))) (bcons (swhile fuel_rings_from PassesOwn.never (tcmp (one hr.u64) (nw (pv 7)) (wk (frz (elstF anil)))) (bcons (sown (ps_set (i := 8) sc_rings_from.nd rfl (.inl rfl) (elstF anil))) (bcons (sfor PassesOwn.never rfl (isq (nv (pv 7))) (gtup (n := 3) rfl (gcons (gnm (pg_name (i := 5) sc_rings_from.nd rfl (.inl rfl))) (gcons (gnm (pg_name (i := 9) sc_rings_from.nd rfl (.inl rfl))) (gcons (gnm (pg_name (i := 10) sc_rings_from.nd rfl (.inl rfl))) gnil)))) (bone (sfor PassesOwn.never rfl (isq (ecall ((ok_steps_on M).mono (by decide : 1 ≤ 1)) hr (by rfl) M.g_steps_on M.F_steps_on.kp M.b_steps_on (acons (nv (pv 0)) (acons (nv (pv 9)) anil)))) (gtup (n := 3) rfl (gcons (gnm (pg_name (i := 4) sc_rings_from.nd rfl (by first | exact .inl rfl | exact .inr rfl))) (gcons (gnm (pg_name (i := 11) sc_rings_from.nd rfl (by first | exact .inl rfl | exact .inr rfl))) (gcons (gnm (pg_name (i := 12) sc_rings_from.nd rfl (.inl rfl))) gnil)))) (bone (sif (PW.pt (wand (tcmp (ogt hr.u64) (nw (pv 4)) (nw (pv 1))) (wand1 (tcmp (onotin hr.u64) (nw (pv 12)) (nw (pv 10)))))) (bcons (sset (ps_set (i := 13) sc_rings_from.nd rfl (.inl rfl) (ecT otuple (by rfl) M.m_tuple bt_tuple (wcons (wk (frz (elc (own := [("one", 14), ("number", 15)]) rfl sc_rings_from.nd (ien (by rfl) M.m_enumerate (nv (pv 5))) (blkOk_by (N := nm_rings_from) (sc := defScope s_rings_from) (by decide +kernel)) (by decide) (fun _ _ _ _ _ => (gtup (n := 2) rfl (gcons (gnm (pg_name (i := 14) sc_rings_from.nd rfl (by first | exact .inl rfl | exact .inr rfl))) (gcons (gnm (pg_name (i := 15) sc_rings_from.nd rfl (by first | exact .inl rfl | exact .inr rfl))) gnil)))) (fun _ _ _ _ _ => qnil) (fun _ _ _ _ _ => (eif (tcmp (oeq hr.u64) (nw (pv 14)) (nw (pv 4))) (nv (pv 11)) (nv (pv 15))))))) wnil)))) (bone (sif (tcmp (oeq hr.u64) (nw (pv 12)) (nw (pv 2))) (bone (sapp (pv 6) (nv (pv 13)))) (bone (sapp (pv 8) (etup (acons (nv (pv 13)) (acons (nv (pv 12)) (acons (etup (astar (nv (pv 10)) (acons (nv (pv 12)) anil))) anil))))))))) bnil))))) (bfrz 8 (bcons (sset (ps_set (i := 7) sc_rings_from.nd rfl (.inl rfl) (nv (pv 8)))) (bone (sif (tcmp (ogt hr.u64) (wk (eop oadd (wk (ecB olen (by rfl) M.m_len bt_len (wcons (nw (pv 6)) wnil))) (wk (ecB olen (by rfl) M.m_len bt_len (wcons (nw (pv 7)) wnil))))) (wk (cgl (by rfl) M.k_MOST_ROWS_simplerows))) bdead bnil))))))) (bone (sretw (nw (pv 6)))))))))
theorem ok_simple_ring_rows {P : Program} {w : World} {K : PySem.W.Frag} {mg : Str → Option Value} {base : Heap} (M : Ms K mg) : FnG P w K mg base 3 M.f_simple_ring_rows M.d_simple_ring_rows ["frame"] (spP 1 sem_simple_ring_rows) := by
  refine fnG_of M.F_simple_ring_rows sc_simple_ring_rows (fun vs H Q E h => spP_len h) (fun cdv A outer s H vs Q E hr h => ?_)
  obtain ⟨B, ds, d, sb, r, hl, e, q⟩ := h
  refine ⟨tB none b_simple_ring_rows, ?_, end_P sb r (by rw [hl]; decide) e q⟩
  exact (bcons (sown (ps_set (i := 1) sc_simple_ring_rows.nd rfl (.inl rfl) (elstF anil))) (bcons (sfor PassesOwn.never rfl (irg1 (by rfl) M.m_range (acons (ecB olen (by rfl) M.m_len bt_len (wcons (wk (eit (nw (pv 0)) (wk ci))) wnil)) anil)) (gnm (pg_name (i := 2) sc_simple_ring_rows.nd rfl (.inl rfl))) (bcons (sext (pv 1) (ecall ((ok_rings_from M).mono (by decide : 2 ≤ 2)) hr (by rfl) M.g_rings_from M.F_rings_from.kp M.b_rings_from (acons (nv (pv 0)) (acons (nv (pv 2)) anil)))) (bone (sif (tcmp (ogt hr.u64) (wk (ecB olen (by rfl) M.m_len bt_len (wcons (nw (pv 1)) wnil))) (wk (cgl (by rfl) M.k_MOST_ROWS_simplerows))) bdead bnil)))) (bfrz 1 (bone (sret (ecT otuple (by rfl) M.m_tuple bt_tuple (wcons (wk (frz (ecBF (osort hr.u64) (by rfl) M.m_sorted bt_sorted (wcons (wk (eop oadd (nw (pv 1)) (wk (frz (elc (own := [("row", 3)]) rfl sc_simple_ring_rows.nd (isq (nv (pv 1))) (blkOk_by (N := nm_simple_ring_rows) (sc := defScope s_simple_ring_rows) (by decide +kernel)) (by decide) (fun _ _ _ _ _ => (gnm (pg_name (i := 3) sc_simple_ring_rows.nd rfl (by first | exact .inl rfl | exact .inr rfl)))) (fun _ _ _ _ _ => qnil) (fun _ _ _ _ _ => (ecall ((ok_turned_row M).mono (by decide : 1 ≤ 2)) hr (by rfl) M.g_turned_row M.F_turned_row.kp M.b_turned_row (acons (nv (pv 3)) anil)))))))) wnil)))) wnil)))))))
end VL

set_option maxHeartbeats 4000000

/-! The defs of the text do what they mean by data. Printed by gen.py. -/
namespace VL
open PySem PySem.Spec PyProof.Rows L2
theorem ok__law_pick {P : Program} {w : World} {K : PySem.W.Frag} {mg : Str → Option Value} {base : Heap} (M : Ms K mg) : FnG P w K mg base 1 M.f__law_pick M.d__law_pick ["source", "many"] (spS 1 sem__law_pick) := by
  refine fnG_of M.F__law_pick sc__law_pick (fun vs H Q E h => spS_len h) (fun cdv A outer s H vs Q E hr h => ?_)
  obtain ⟨S, L, st, B, us, ds, d, st', rfl, sa, b1, b2, sb, r, hl, e, q⟩ := h
  refine ⟨tB (some (S, L)) b__law_pick, ?_, end_S sb sa b1 b2 r (by rw [hl]; decide) e q⟩
  exact (bcons (swhile fuel__law_pick PassesOwn.never (PW.pt (wand (tcmp (ogt hr.u64) (nw (pv 1)) (wk ci)) (wand (tcmp (olt hr.u64) (wk (esget .left hr.u1 (pv 0))) (wk ci)) (wand1 (tcmp (ogt hr.u64) (wk (eslen hr.u1 (by rfl) M.m_len bt_len (pv 0))) (wk ci)))))) (bone (sspop hr.u1 (pv 0) (pv 0)))) (bcons (sset (ps_set (i := 2) sc__law_pick.nd rfl (.inl rfl) (esget .left hr.u1 (pv 0)))) (bcons (sif (PW.pt (wor (tcmp (olt hr.u64) (nw (pv 1)) (wk ci)) (wor1 (tcmp (ogt hr.u64) (nw (pv 2)) (wk ci))))) (bcons (ssput .left hr.u1 (pv 0) (eop ofdiv (nw (pv 2)) (wk (ecB (omax rfl) (by rfl) M.m_max bt_max (wcons (wk ci) (wcons (nw (pv 1)) wnil)))))) (bone (sret (eop omod (wk (ecT oint (by rfl) M.m_int bt_int (wcons (nw (pv 2)) wnil))) (wk (ecB (omax rfl) (by rfl) M.m_max bt_max (wcons (wk ci) (wcons (nw (pv 1)) wnil)))))))) bnil) (bcons (ssput .turn hr.u1 (pv 0) (eop oadd (wk (esget .turn hr.u1 (pv 0))) (wk ci))) (bcons (sset (ps_set (i := 3) sc__law_pick.nd rfl (.inl rfl) (eop omod (wk (ecT oint (by rfl) M.m_int bt_int (wcons (wk (eop oadd (wk (esget .mixed hr.u1 (pv 0))) (wk (eop omul (wk (esget .turn hr.u1 (pv 0))) (wk ci))))) wnil))) (wk ci)))) (bcons (sset (ps_set (i := 3) sc__law_pick.nd rfl (.inl rfl) (eop omod (wk (ecT oint (by rfl) M.m_int bt_int (wcons (wk (eop oadd (wk (eop omul (nw (pv 3)) (nw (pv 3)))) (wk (eop omul (wk (esget .turn hr.u1 (pv 0))) (wk ci))))) wnil))) (wk ci)))) (bcons (ssput .mixed hr.u1 (pv 0) (nv (pv 3))) (bone (sret (eop omod (wk (ecT oint (by rfl) M.m_int bt_int (wcons (wk (eop ofdiv (nw (pv 3)) (wk ci))) wnil))) (nw (pv 1))))))))))))
theorem ok__law_of {P : Program} {w : World} {K : PySem.W.Frag} {mg : Str → Option Value} {base : Heap} (M : Ms K mg) : FnG P w K mg base 2 M.f__law_of M.d__law_of ["source", "some"] (spS 1 sem__law_of) := by
  refine fnG_of M.F__law_of sc__law_of (fun vs H Q E h => spS_len h) (fun cdv A outer s H vs Q E hr h => ?_)
  obtain ⟨S, L, st, B, us, ds, d, st', rfl, sa, b1, b2, sb, r, hl, e, q⟩ := h
  refine ⟨tB (some (S, L)) b__law_of, ?_, end_S sb sa b1 b2 r (by rw [hl]; decide) e q⟩
  exact (bone (sret (eit (nw (pv 1)) (wk (esrc ((ok__law_pick M).mono (by decide : 1 ≤ 1)) hr (by rfl) M.g__law_pick M.F__law_pick.kp M.b__law_pick (pv 0) (acons (ecB olen (by rfl) M.m_len bt_len (wcons (nw (pv 1)) wnil)) anil))))))
theorem ok__law_mixed {P : Program} {w : World} {K : PySem.W.Frag} {mg : Str → Option Value} {base : Heap} (M : Ms K mg) : FnG P w K mg base 2 M.f__law_mixed M.d__law_mixed ["source", "things"] (spS 1 sem__law_mixed) := by
  refine fnG_of M.F__law_mixed sc__law_mixed (fun vs H Q E h => spS_len h) (fun cdv A outer s H vs Q E hr h => ?_)
  obtain ⟨S, L, st, B, us, ds, d, st', rfl, sa, b1, b2, sb, r, hl, e, q⟩ := h
  refine ⟨tB (some (S, L)) b__law_mixed, ?_, end_S sb sa b1 b2 r (by rw [hl]; decide) e q⟩
  exact (bcons (sown (ps_set (i := 2) sc__law_mixed.nd rfl (by first | exact .inl rfl | exact .inr rfl) (ecTF olist (by rfl) M.m_list bt_list (wcons (nw (pv 1)) wnil)))) (bone ((ps_ret (pe_lc (own := [("lap", 3)]) rfl sc__law_mixed.nd (irg1 (by rfl) M.m_range (acons (ecB olen (by rfl) M.m_len bt_len (wcons (nw (pv 2)) wnil)) anil)) (blkOk_by (N := nm__law_mixed) (sc := defScope s__law_mixed) (by decide +kernel)) (fun _ _ _ _ _ => (gnm (pg_name (i := 3) sc__law_mixed.nd rfl (by first | exact .inl rfl | exact .inr rfl)))) (fun _ _ _ _ _ => qnil) (fun _ _ _ _ _ => (epop (pv 2) (esrc ((ok__law_pick M).mono (by decide : 1 ≤ 1)) hr (by rfl) M.g__law_pick M.F__law_pick.kp M.b__law_pick (pv 0) (acons (ecB olen (by rfl) M.m_len bt_len (wcons (nw (pv 2)) wnil)) anil)))))).wk (fun E σ H q => sretX (by decide) q))))
theorem ok__law_hung {P : Program} {w : World} {K : PySem.W.Frag} {mg : Str → Option Value} {base : Heap} (M : Ms K mg) : FnG P w K mg base 3 M.f__law_hung M.d__law_hung ["source", "crossings", "roads"] (spS 2 sem__law_hung) := by
  refine fnG_of M.F__law_hung sc__law_hung (fun vs H Q E h => spS_len h) (fun cdv A outer s H vs Q E hr h => ?_)
  obtain ⟨S, L, st, B, us, ds, d, st', rfl, sa, b1, b2, sb, r, hl, e, q⟩ := h
  refine ⟨tB (some (S, L)) b__law_hung, ?_, end_S sb sa b1 b2 r (by rw [hl]; decide) e q⟩
  exact (bcons (spar (k1 := .v) (k2 := .o) (ps_par (i := 3) (j := 4) rfl sc__law_hung.nd rfl rfl (by decide) rfl rfl (pa_cons (eop oadd (wk ci) (wk (esrc ((ok__law_pick M).mono (by decide : 1 ≤ 2)) hr (by rfl) M.g__law_pick M.F__law_pick.kp M.b__law_pick (pv 0) (acons (nv (pv 1)) anil)))) (pa_cons (elstF anil) pa_nil)) (by rfl))) (bcons (sset (ps_set (i := 5) sc__law_hung.nd rfl (.inl rfl) (esrc ((ok__law_mixed M).mono (by decide : 2 ≤ 2)) hr (by rfl) M.g__law_mixed M.F__law_mixed.kp M.b__law_mixed (pv 0) (acons (frz (elrg rfl (by rfl) M.m_list (by rfl) M.m_range (nv (pv 3)))) anil)))) (bcons (sfor PassesOwn.never rfl (irg2 (by rfl) M.m_range (acons ci (acons (nv (pv 3)) anil))) (gnm (pg_name (i := 6) sc__law_hung.nd rfl (.inl rfl))) (bone (sapp (pv 4) (etup (acons (eit (nw (pv 5)) (wk (esrc ((ok__law_pick M).mono (by decide : 1 ≤ 2)) hr (by rfl) M.g__law_pick M.F__law_pick.kp M.b__law_pick (pv 0) (acons (nv (pv 6)) anil)))) (acons (eit (nw (pv 5)) (nw (pv 6))) anil)))))) (bcons (sfor PassesOwn.never rfl (irg1 (by rfl) M.m_range (acons (esrc ((ok__law_pick M).mono (by decide : 1 ≤ 2)) hr (by rfl) M.g__law_pick M.F__law_pick.kp M.b__law_pick (pv 0) (acons (ecB (omax rfl) (by rfl) M.m_max bt_max (wcons (wk ci) (wcons (wk (eop oadd (wk (eop osub (nw (pv 2)) (nw (pv 3)))) (wk ci))) wnil))) anil)) anil)) (gnm (pg_name (i := 7) sc__law_hung.nd rfl (.inl rfl))) (bone (sapp (pv 4) (etup (acons (esrc ((ok__law_pick M).mono (by decide : 1 ≤ 2)) hr (by rfl) M.g__law_pick M.F__law_pick.kp M.b__law_pick (pv 0) (acons (nv (pv 3)) anil)) (acons (esrc ((ok__law_pick M).mono (by decide : 1 ≤ 2)) hr (by rfl) M.g__law_pick M.F__law_pick.kp M.b__law_pick (pv 0) (acons (nv (pv 3)) anil)) anil)))))) (bfrz 4 (bcons (sset (ps_setLc (i := 4) (own := [("pair", 8)]) rfl sc__law_hung.nd rfl rfl (sw_true rfl rfl rfl (by decide +kernel)) (isq (esrc ((ok__law_mixed M).mono (by decide : 2 ≤ 2)) hr (by rfl) M.g__law_mixed M.F__law_mixed.kp M.b__law_mixed (pv 0) (acons (nv (pv 4)) anil))) (blkOk_by (N := nm__law_hung) (sc := defScope s__law_hung) (by decide +kernel)) (fun _ _ _ _ _ => (gnm (pg_name (i := 8) sc__law_hung.nd rfl (by first | exact .inl rfl | exact .inr rfl)))) (fun _ _ _ _ _ => qnil) (fun _ _ _ _ _ => (eif (tcmp (oeq hr.u64) (wk (esrc ((ok__law_pick M).mono (by decide : 1 ≤ 2)) hr (by rfl) M.g__law_pick M.F__law_pick.kp M.b__law_pick (pv 0) (acons ci anil))) (wk ci)) (erev (nw (pv 8))) (nv (pv 8))))) (fun σ H Q q => rdLc (by decide) (rdFrz q))) (bone (sret (etup (acons (nv (pv 3)) (acons (ecT otuple (by rfl) M.m_tuple bt_tuple (wcons (nw (pv 4)) wnil)) anil)))))))))))
theorem ok__law_rising {P : Program} {w : World} {K : PySem.W.Frag} {mg : Str → Option Value} {base : Heap} (M : Ms K mg) : FnG P w K mg base 1 M.f__law_rising M.d__law_rising ["frame", "heights"] (spP 2 sem__law_rising) := by
  refine fnG_of M.F__law_rising sc__law_rising (fun vs H Q E h => spP_len h) (fun cdv A outer s H vs Q E hr h => ?_)
  obtain ⟨B, ds, d, sb, r, hl, e, q⟩ := h
  refine ⟨tB none b__law_rising, ?_, end_P sb r (by rw [hl]; decide) e q⟩
  exact (bone (sret (ecT otuple (by rfl) M.m_tuple bt_tuple (wcons (wk (frz (elc (own := [("a", 2), ("b", 3)]) rfl sc__law_rising.nd (isq (eit (nw (pv 0)) (wk ci))) (blkOk_by (N := nm__law_rising) (sc := defScope s__law_rising) (by decide +kernel)) (by decide) (fun _ _ _ _ _ => (gtup (n := 2) rfl (gcons (gnm (pg_name (i := 2) sc__law_rising.nd rfl (by first | exact .inl rfl | exact .inr rfl))) (gcons (gnm (pg_name (i := 3) sc__law_rising.nd rfl (by first | exact .inl rfl | exact .inr rfl))) gnil)))) (fun _ _ _ _ _ => qnil) (fun _ _ _ _ _ => (eop osub (wk (eit (nw (pv 1)) (nw (pv 3)))) (wk (eit (nw (pv 1)) (nw (pv 2))))))))) wnil))))
theorem ok__law_heights {P : Program} {w : World} {K : PySem.W.Frag} {mg : Str → Option Value} {base : Heap} (M : Ms K mg) : FnG P w K mg base 2 M.f__law_heights M.d__law_heights ["frame", "row"] (spP 2 sem__law_heights) := by
  refine fnG_of M.F__law_heights sc__law_heights (fun vs H Q E h => spP_len h) (fun cdv A outer s H vs Q E hr h => ?_)
  obtain ⟨B, ds, d, sb, r, hl, e, q⟩ := h
  refine ⟨tB none b__law_heights, ?_, end_P sb r (by rw [hl]; decide) e q⟩
  exact (bcons (sown (ps_set (i := 2) sc__law_heights.nd rfl (by first | exact .inl rfl | exact .inr rfl) (edi1 ci ci))) (bcons (sfor PassesOwn.never rfl (irg1 (by rfl) M.m_range (acons (eit (nw (pv 0)) (wk ci)) anil)) (gnm (pg_name (i := 3) sc__law_heights.nd rfl (.inl rfl))) (bone (sfor PassesOwn.never rfl (izp (by rfl) M.m_zip (acons (eit (nw (pv 0)) (wk ci)) (acons (nv (pv 1)) anil))) (gtup (n := 2) rfl (gcons (gtup (n := 2) rfl (gcons (gnm (pg_name (i := 4) sc__law_heights.nd rfl (.inl rfl))) (gcons (gnm (pg_name (i := 5) sc__law_heights.nd rfl (.inl rfl))) gnil))) (gcons (gnm (pg_name (i := 6) sc__law_heights.nd rfl (.inl rfl))) gnil))) (bcons (sif (PW.pt (wand (tcmp (oin hr.u64) (nw (pv 4)) (nw (pv 2))) (wand1 (tcmp (onotin hr.u64) (nw (pv 5)) (nw (pv 2)))))) (bone (sput hr.u1 (pv 2) (nv (pv 5)) (eop oadd (wk (edg hr.u1 (nw (pv 2)) (nw (pv 4)))) (nw (pv 6))))) bnil) (bone (sif (PW.pt (wand (tcmp (oin hr.u64) (nw (pv 5)) (nw (pv 2))) (wand1 (tcmp (onotin hr.u64) (nw (pv 4)) (nw (pv 2)))))) (bone (sput hr.u1 (pv 2) (nv (pv 4)) (eop osub (wk (edg hr.u1 (nw (pv 2)) (nw (pv 5)))) (nw (pv 6))))) bnil)))))) (bcons (sset (ps_set (i := 7) sc__law_heights.nd rfl (.inl rfl) (ecT otuple (by rfl) M.m_tuple bt_tuple (wcons (wk (frz (elc (own := [("c", 8)]) rfl sc__law_heights.nd (irg1 (by rfl) M.m_range (acons (eit (nw (pv 0)) (wk ci)) anil)) (blkOk_by (N := nm__law_heights) (sc := defScope s__law_heights) (by decide +kernel)) (by decide) (fun _ _ _ _ _ => (gnm (pg_name (i := 8) sc__law_heights.nd rfl (by first | exact .inl rfl | exact .inr rfl)))) (fun _ _ _ _ _ => qnil) (fun _ _ _ _ _ => (edg hr.u1 (nw (pv 2)) (nw (pv 8))))))) wnil)))) (bone (sret (eif (tcmp (oeq hr.u64) (wk (ecall ((ok__law_rising M).mono (by decide : 1 ≤ 1)) hr (by rfl) M.g__law_rising M.F__law_rising.kp M.b__law_rising (acons (nv (pv 0)) (acons (nv (pv 7)) anil)))) (wk (ecT otuple (by rfl) M.m_tuple bt_tuple (wcons (nw (pv 1)) wnil)))) (nv (pv 7)) cn))))))
theorem ok__law_all_turnings {P : Program} {w : World} {K : PySem.W.Frag} {mg : Str → Option Value} {base : Heap} (M : Ms K mg) : FnG P w K mg base 1 M.f__law_all_turnings M.d__law_all_turnings ["m"] (spP 1 sem__law_all_turnings) := by
  refine fnG_of M.F__law_all_turnings sc__law_all_turnings (fun vs H Q E h => spP_len h) (fun cdv A outer s H vs Q E hr h => ?_)
  obtain ⟨B, ds, d, sb, r, hl, e, q⟩ := h
  refine ⟨tB none b__law_all_turnings, ?_, end_P sb r (by rw [hl]; decide) e q⟩
  exact (bcons (sset (ps_set (i := 1) sc__law_all_turnings.nd rfl (.inl rfl) (frz (elstF (acons (etup anil) anil))))) (bcons (sfor PassesOwn.never rfl (irg1 (by rfl) M.m_range (acons (nv (pv 0)) anil)) (gnm (pg_name (i := 2) sc__law_all_turnings.nd rfl (.inl rfl))) (bcons (sset (ps_set (i := 3) sc__law_all_turnings.nd rfl (.inl rfl) (frz (elstF anil)))) (bcons (sfor PassesOwn.never rfl (isq (nv (pv 1))) (gnm (pg_name (i := 4) sc__law_all_turnings.nd rfl (by first | exact .inl rfl | exact .inr rfl))) (bone (sset (ps_set (i := 3) sc__law_all_turnings.nd rfl (.inl rfl) (eop oadd (nw (pv 3)) (wk (frz (elc (own := [("mark", 5)]) rfl sc__law_all_turnings.nd (isq (etup (acons ci (acons ci anil)))) (blkOk_by (N := nm__law_all_turnings) (sc := defScope s__law_all_turnings) (by decide +kernel)) (by decide) (fun _ _ _ _ _ => (gnm (pg_name (i := 5) sc__law_all_turnings.nd rfl (by first | exact .inl rfl | exact .inr rfl)))) (fun _ _ _ _ _ => qnil) (fun _ _ _ _ _ => (eop oadd (nw (pv 4)) (wk (etup (acons (nv (pv 5)) anil))))))))))))) (bone (sset (ps_set (i := 1) sc__law_all_turnings.nd rfl (.inl rfl) (nv (pv 3)))))))) (bone (sretw (nw (pv 1))))))
theorem ok__law_signs_of {P : Program} {w : World} {K : PySem.W.Frag} {mg : Str → Option Value} {base : Heap} (M : Ms K mg) : FnG P w K mg base 1 M.f__law_signs_of M.d__law_signs_of ["turning"] (spP 1 sem__law_signs_of) := by
  refine fnG_of M.F__law_signs_of sc__law_signs_of (fun vs H Q E h => spP_len h) (fun cdv A outer s H vs Q E hr h => ?_)
  obtain ⟨B, ds, d, sb, r, hl, e, q⟩ := h
  refine ⟨tB none b__law_signs_of, ?_, end_P sb r (by rw [hl]; decide) e q⟩
  exact (bone (sret (ecT otuple (by rfl) M.m_tuple bt_tuple (wcons (wk (frz (elc (own := [("mark", 1)]) rfl sc__law_signs_of.nd (isq (nv (pv 0))) (blkOk_by (N := nm__law_signs_of) (sc := defScope s__law_signs_of) (by decide +kernel)) (by decide) (fun _ _ _ _ _ => (gnm (pg_name (i := 1) sc__law_signs_of.nd rfl (by first | exact .inl rfl | exact .inr rfl)))) (fun _ _ _ _ _ => qnil) (fun _ _ _ _ _ => (eop osub (wk ci) (wk (eop omul (wk ci) (nw (pv 1))))))))) wnil))))
end VL

set_option maxHeartbeats 4000000
/-! The source, the law, its end. The law's own body is printed by genlaw.py. -/
namespace VL
open PySem PySem.Spec PyProof.Rows L2
abbrev nm_law : List Str := ["script", "source", "lap", "frame", "m", "kept", "turning", "every", "signs", "rings", "due", "rows", "late", "row", "told", "alike", "other", "left", "many", "some", "one", "r", "a", "b", "ring"]
abbrev s_law : Stmt := topS 43
theorem sc_law : FnScope nm_law ["script"] (defScope s_law) := ⟨rfl, rfl, rfl, by decide +kernel, rfl, by decide +kernel, by decide +kernel⟩
def b_law : Fx Flow := (fSeq (sFor (fR1 (fCons (fun _ => mp (.int 3)) fNil)) (gSet 2) (fSeq (sSet 3 (fSrc 1 2 sem__law_hung (fCons (f2 itemD (fc lstD (fCons (fun _ => mp (.int 3)) (fCons (fun _ => mp (.int 4)) (fCons (fun _ => mp (.int 5)) fNil)))) (gw 2)) (fCons (f2 itemD (fc lstD (fCons (fun _ => mp (.int 4)) (fCons (fun _ => mp (.int 6)) (fCons (fun _ => mp (.int 7)) fNil)))) (gw 2)) fNil)))) (fSeq (sSet 3 (fIf (fB (f2 neD (f2 itemD (gw 3) (fun _ => mp (.int 1))) (fc tupD fNil))) (gv 3) (fc tupD (fCons (fun _ => mp (.int 2)) (fCons (fc tupD (fCons (fc tupD (fCons (fun _ => mp (.int 0)) (fCons (fun _ => mp (.int 1)) fNil))) fNil)) fNil))))) (fSeq (sPar 4 5 .v .v (fc lenD (fCons (f2 itemD (gw 3) (fun _ => mp (.int 1))) fNil)) (fc reprD (fCons (gw 3) fNil))) (fSeq (sPar 6 7 .v .v (fc tupleD (fCons (lcF (fR1 (fCons (gv 4) fNil)) (gSet 21) (fun _ => mp true) (fSrc 1 1 sem__law_pick (fCons (fun _ => mp (.int 2)) fNil)) [21]) fNil)) (fCall 1 sem__law_all_turnings (fCons (gv 4) fNil))) (fSeq (sPar 8 9 .v .v (fCall 1 sem__law_signs_of (fCons (gv 6) fNil)) (fCall 1 sem_simple_ring_rows (fCons (gv 3) fNil))) (fSeq (sPar 10 11 .o .o (fc lstD fNil) (fc lstD fNil)) (fSeq (sFor (fSq (gv 7)) (gSet 12) (fSeq (sSet 13 (fc tupleD (fCons (lcF (fZp (fCons (gv 8) (fCons (fCall 1 sem__law_signs_of (fCons (gv 12) fNil)) fNil))) (gTp 2 (gAC (gSet 22) (gAC (gSet 23) gAN))) (fun _ => mp true) (f2 fdivD (f2 subD (gw 22) (gw 23)) (fun _ => mp (.int 2))) [22, 23]) fNil))) (fIf (fB (f2 isNotD (fCall 2 sem__law_heights (fCons (gv 3) (fCons (gv 13) fNil))) (fun _ => mp .none))) (fSeq (sApp 10 (gv 12)) (sApp 11 (gv 13))) (fun δ => mp (.nx δ))))) (fFrz 10 (fSeq (sSet 14 (fCall 2 sem_alike_by_cuts (fCons (gv 3) (fCons (gv 6) fNil)))) (fFrz 11 (fSeq (fIf (fB (f2 neD (fc reprD (fCons (gw 14) fNil)) (fc reprD (fCons (fc tupleD (fCons (gw 10) fNil)) fNil)))) (sRet (fun _ => mp (.bool false))) (fun δ => mp (.nx δ))) (fSeq (fIf (fOr (fB (f2 neD (fCall 2 sem_nearest_cut_rows (fCons (gv 3) (fCons (fc tupD (fCons (gv 8) (fCons (fun _ => mp (.int 2)) fNil))) fNil))) (fc sortD (fCons (gw 11) fNil)))) (fB (f2 neD (f1 ldD (lcF (fSq (gv 11)) (gSet 13) (fun _ => mp true) (fc tupD (fCons (gv 13) (fCons (fun _ => mp (.int 0)) fNil))) [13])) (fc lenD (fCons (gw 11) fNil))))) (sRet (fun _ => mp (.bool false))) (fun δ => mp (.nx δ))) (fSeq (sFor (fSq (fSl (fSrc 1 1 sem__law_mixed (fCons (gv 7) fNil)) foN (foS (fun _ => mp (.int 6))))) (gSet 12) (fSeq (sSet 15 (f2 eqD (lcF (fSq (gv 9)) (gSet 24) (fB (f2 neD (fCall 2 sem_row_product (fCons (gv 24) (fCons (gv 8) fNil))) (fCall 2 sem_row_product (fCons (gv 24) (fCons (fCall 1 sem__law_signs_of (fCons (gv 12) fNil)) fNil))))) (gv 24) [24]) (fc lstD fNil))) (fIf (fB (f2 neD (gw 15) (f2 inD (gw 12) (gw 14)))) (sRet (fun _ => mp (.bool false))) (fun δ => mp (.nx δ))))) (fSeq (sSet 16 (fSrc 1 1 sem__law_of (fCons (gv 10) fNil))) (fIf (fOr (fB (f2 neD (fCall 2 sem_alike_by_cuts (fCons (gv 3) (fCons (gv 16) fNil))) (gw 14))) (fB (f2 neD (fc reprD (fCons (gw 3) fNil)) (gw 5)))) (sRet (fun _ => mp (.bool false))) (fun δ => mp (.nx δ)))))))))))))))))) (fSeq (sPar3 17 18 3 .v .v (fCall 1 sem__law_all_turnings (fCons (fun _ => mp (.int 3)) fNil)) (fun _ => mp (.int 0)) (fc tupD (fCons (fun _ => mp (.int 3)) (fCons (fc tupD (fCons (fc tupD (fCons (fun _ => mp (.int 0)) (fCons (fun _ => mp (.int 1)) fNil))) (fCons (fc tupD (fCons (fun _ => mp (.int 1)) (fCons (fun _ => mp (.int 2)) fNil))) (fCons (fc tupD (fCons (fun _ => mp (.int 2)) (fCons (fun _ => mp (.int 0)) fNil))) fNil)))) fNil)))) (fSeq (whF (fB (f2 neD (gw 17) (fc lstD fNil))) (fSeq (sSet 19 (fCall 2 sem_alike_by_cuts (fCons (gv 3) (fCons (f2 itemD (gw 17) (fun _ => mp (.int 0))) fNil)))) (sPar 17 18 .v .v (lcF (fSq (gv 17)) (gSet 20) (fB (f2 notInD (gw 20) (gw 19))) (gv 20) [20]) (f2 addD (gw 18) (fun _ => mp (.int 1))))) fuel_law) (sRet (vAnd (f2 eqD (gw 18) (fun _ => mp (.int 4))) (f2 eqD (fCall 2 sem_alike_by_cuts (fCons (gv 3) (fCons (fc tupD (fCons (fun _ => mp (.int 0)) (fCons (fun _ => mp (.int 0)) (fCons (fun _ => mp (.int 1)) fNil)))) fNil))) (fc tupD (fCons (fc tupD (fCons (fun _ => mp (.int 0)) (fCons (fun _ => mp (.int 0)) (fCons (fun _ => mp (.int 1)) fNil)))) (fCons (fc tupD (fCons (fun _ => mp (.int 0)) (fCons (fun _ => mp (.int 1)) (fCons (fun _ => mp (.int 0)) fNil)))) (fCons (fc tupD (fCons (fun _ => mp (.int 1)) (fCons (fun _ => mp (.int 0)) (fCons (fun _ => mp (.int 0)) fNil)))) fNil))))))))))
/-! ### the source -/
def mixOf : Int → List Int → Int
  | m, [] => m
  | m, c :: r => mixOf ((m * 69069 + c * 31 + 5).fmod 2147483629) r
def absI (i : Int) : Int := if i < 0 then -i else i
def srcOf (ns : List Int) : Src := ⟨(ns.map absI).reverse, 1, mixOf 11 ns, 0⟩
theorem mixOf_snoc : ∀ (ns : List Int) (m c : Int), mixOf m (ns ++ [c]) = (mixOf m ns * 69069 + c * 31 + 5).fmod 2147483629
  | [], m, c => rfl
  | n :: ns, m, c => mixOf_snoc ns _ c
def spSrc (K : PySem.W.Frag) : Sp := fun vs H Q _ => ∃ (a : Addr) (ns : List Int), vs = [.ref a] ∧ SqL K H a (ns.map V.int) ∧ ns.length ≤ 63 ∧ ∀ S L H', Same H H' → H S = none → H L = none → SrcAt H' S L (srcOf ns) → Q (.ref S) H'
theorem bt_int' : bootBuiltins (Str.ofString "int") = some (.type "int") := bt_int
theorem sqL_mono {K : PySem.W.Frag} {H H' : Hp} {a : Addr} {xs : List V} (h : Same H H') (x : SqL K H a xs) : SqL K H' a xs := by
  rcases x with (x | ⟨o, x⟩) | x
  · exact .inl (.inl (h _ _ x))
  · exact .inl (.inr ⟨o, h _ _ x⟩)
  · exact .inr x
theorem upd_upd {H : Hp} {p : Addr} {o o' : HO} : upd (upd H p o) p o' = upd H p o' := by
  funext b
  by_cases h : b = p
  · subst h; rw [upd_same, upd_same]
  · rw [upd_ne h, upd_ne h, upd_ne h]
theorem putK_new {kvs : List (Key × V)} {k : Key} {v : V} (h : valV kvs k = none) : putK kvs k v = kvs ++ [(k, v)] := by
  unfold putK
  rw [valV_any, h]
  rfl
theorem merge4 {L : Addr} {st : Src} : mergeK [] (srcK L st) = srcK L st := by
  have h1 : putK ([] : List (Key × V)) (.inr (Str.ofString "cells")) (.ref L) = [(.inr (Str.ofString "cells"), .ref L)] := putK_new valV_nil
  have h2 : putK ([(.inr (Str.ofString "cells"), .ref L)] : List (Key × V)) (.inr (Str.ofString "left")) (.int st.left) = [(.inr (Str.ofString "cells"), .ref L), (.inr (Str.ofString "left"), .int st.left)] := putK_new (by rw [valV_neg (p := (Sum.inr (Str.ofString "cells"), V.ref L)) (inr_ne n_cl)]; exact valV_nil)
  have h3 : putK ([(.inr (Str.ofString "cells"), .ref L), (.inr (Str.ofString "left"), .int st.left)] : List (Key × V)) (.inr (Str.ofString "mixed")) (.int st.mixed) = [(.inr (Str.ofString "cells"), .ref L), (.inr (Str.ofString "left"), .int st.left), (.inr (Str.ofString "mixed"), .int st.mixed)] := putK_new (by
    rw [valV_neg (p := (Sum.inr (Str.ofString "cells"), V.ref L)) (inr_ne n_cm), valV_neg (p := (Sum.inr (Str.ofString "left"), V.int st.left)) (inr_ne n_lm)]; exact valV_nil)
  have h4 : putK ([(.inr (Str.ofString "cells"), .ref L), (.inr (Str.ofString "left"), .int st.left), (.inr (Str.ofString "mixed"), .int st.mixed)] : List (Key × V)) (.inr (Str.ofString "turn")) (.int st.turn) = srcK L st := putK_new (by
    rw [valV_neg (p := (Sum.inr (Str.ofString "cells"), V.ref L)) (inr_ne n_ct), valV_neg (p := (Sum.inr (Str.ofString "left"), V.int st.left)) (inr_ne n_lt), valV_neg (p := (Sum.inr (Str.ofString "mixed"), V.int st.mixed)) (inr_ne n_mt)]; exact valV_nil)
  have h5 : mergeK [] (srcK L st) = putK (putK (putK (putK ([] : List (Key × V)) (.inr (Str.ofString "cells")) (.ref L)) (.inr (Str.ofString "left")) (.int st.left)) (.inr (Str.ofString "mixed")) (.int st.mixed)) (.inr (Str.ofString "turn")) (.int st.turn) := rfl
  rw [h5, h1, h2, h3, h4]
theorem ok__law_source {P : Program} {w : World} {K : PySem.W.Frag} {mg : Str → Option Value} {base : Heap} (M : Ms K mg) : FnG P w K mg base 1 M.f__law_source M.d__law_source ["script"] (spSrc K) := by
  refine fnG_of M.F__law_source sc__law_source (fun vs H Q E h => ?_) (fun cdv A outer s H vs Q E hr h => ?_)
  · obtain ⟨a, ns, rfl, _⟩ := h
    rfl
  obtain ⟨a, ns, rfl, hS, hlen, q⟩ := h
  refine ⟨_, pss_cons (ps_set (i := 1) sc__law_source.nd rfl (.inl rfl) pe_int)
    (pss_cons (ps_for PassesOwn.never rfl (pi_list (pv 0)) (pg_name (i := 2) sc__law_source.nd rfl (.inl rfl))
      (pss_one (ps_set (i := 1) sc__law_source.nd rfl (.inl rfl) (pe_op op_modN (pe_callTy call_int1 (by rfl) M.m_int bt_int' (pa_cons (pe_op op_add (pe_op op_add (pe_op op_mul (pv 1) pe_int) (pe_op op_mul (pv 2) pe_int)) pe_int) pa_nil) (by decide) (by decide)) pe_int))))
    (pss_one (ps_ret (pe_disp (pps_cons pe_str (pe_revL (pe_lc (own := [("cell", 2)]) (g := gName 2) (tt := tYes) rfl sc__law_source.nd (pi_list (pv 0)) (blkOk_by (N := nm__law_source) (sc := defScope s__law_source) (by decide +kernel)) (fun _ _ _ _ _ => pg_name (i := 2) sc__law_source.nd rfl (.inl rfl)) (fun _ _ _ _ _ => pts_nil) (fun _ _ _ _ _ => pe_callB call_abs (by rfl) M.m_abs bt_abs (pa_cons (pv 2) pa_nil) (by decide) (by decide))))
      (pps_cons pe_str pe_int (pps_cons pe_str (pv 1) (pps_cons pe_str pe_int pps_nil)))) rfl rfl (by simp) (by show 4 ≤ 15; decide))))), ?_⟩
  refine ⟨.ref a, rfl, a, rfl, ⟨_, hS⟩, ?_⟩
  refine for_list (xs := ns.map V.int) (fun i σ H3 => H3 = H ∧ ∃ y2, σ = [some (.ref a), some (.int (mixOf 11 (ns.take i))), y2]) ⟨rfl, none, rfl⟩ (fun i σ H3 _ ⟨e, _⟩ => e ▸ hS) (fun i x σ H3 hx ⟨e3, y2, e⟩ => ?_) fun σ H3 ⟨e3, y2, e⟩ => ?_
  · subst e e3
    rw [List.getElem?_map] at hx
    obtain ⟨c, hc, rfl⟩ := Option.map_eq_some_iff.mp hx
    refine ⟨_, rfl, _, _, rfl, rfl, .inr ⟨by decide, by decide⟩, _, rfl, _, _, rfl, rfl, .inr ⟨by decide, by decide⟩, _, _, rfl, rfl, _, _, rfl, rfl, .inl ⟨_, rfl, _, _, rfl, rfl, (by show (2147483629 : Int) ≠ 0; decide), rfl, some (.int c), ?_⟩⟩
    have ht : ns.take (i + 1) = ns.take i ++ [c] := by rw [List.take_add_one, hc]; rfl
    rw [ht, mixOf_snoc]
    rfl
  · subst e e3
    have e4 : ns.take (ns.map V.int).length = ns := by rw [List.length_map, List.take_length]
    rw [e4]
    intro p hp
    have sp : Same H3 (upd H3 p (.dK [])) := same_upd hp
    refine ⟨.ref a, rfl, a, rfl, ⟨_, sqL_mono sp hS⟩, fun D hD => ?_⟩
    have nDp : D ≠ p := fun z => by rw [z, upd_same] at hD; cases hD
    refine lc_list (K := K) (xs := ns.map V.int) (fun i H4 => H4 = upd (upd H3 p (.dK [])) D (.lst (((ns.take i).map absI).map V.int))) rfl (fun i H4 _ e => ?_) (fun i x H4 hx e => ?_) fun H4 e => ?_
    · subst e
      exact sqL_mono (same_upd hD) (sqL_mono sp hS)
    · subst e
      rw [List.getElem?_map] at hx
      obtain ⟨c, hc, rfl⟩ := Option.map_eq_some_iff.mp hx
      refine ⟨rfl, ?_⟩
      simp only [tYes, ↓reduceIte]
      refine ⟨_, rfl, c, rfl, _, upd_same, ?_, ?_⟩
      · rw [List.length_map, List.length_map, List.length_take, sizeLine_eq]
        omega
      · have ht : ns.take (i + 1) = ns.take i ++ [c] := by rw [List.take_add_one, hc]; rfl
        rw [ht, List.map_append, List.map_append, upd_upd]
        rfl
    · subst e
      rw [e4]
      refine ⟨D, _, rfl, .inl (.inl upd_same), fun L hL => ?_⟩
      have nLD : L ≠ D := fun z => by rw [z, upd_same] at hL; cases hL
      have nLp : L ≠ p := fun z => by rw [z, upd_ne nDp.symm, upd_same] at hL; cases hL
      refine ⟨_, rfl, ?_, srcK L (srcOf ns), rfl, (by show 4 ≤ 15; decide), ?_⟩
      · rw [upd_ne nLp.symm, upd_ne nDp.symm, upd_same]
      · rw [merge4]
        refine q p L _ (fun b o e => ?_) hp ?_ ⟨?_, ?_⟩
        · have h1 : b ≠ p := ne_of_none e hp
          rw [upd_ne h1]
          exact (same_upd hL) _ _ ((same_upd hD) _ _ (sp _ _ e))
        · cases hh : H3 L with
          | none => rfl
          | some o => rw [(same_upd hD) _ _ (sp _ _ hh)] at hL; cases hL
        · rw [upd_same]; rfl
        · rw [upd_ne nLp, upd_same, ← List.map_reverse]; rfl
theorem pss_ex {X : Cx} {α : Type} {sts : List Stmt} {t : α → TS} (h : ∀ a, PSs X sts (t a)) : PSs X sts (fun E σ H => ∃ a, t a E σ H) := ⟨fun pins s σ H E I ⟨a, q⟩ => (h a).run pins s σ H E I q⟩
def spLawG (K : PySem.W.Frag) : Sp := fun vs H Q _ => ∃ (a : Addr) (ns : List Int), vs = [.ref a] ∧ SqL K H a (ns.map V.int) ∧ ns.length ≤ 63 ∧ ∀ H', Q (.bl true) H'
def δlaw : List Slot := .nil :: .src :: List.replicate (nm_law.length - 2) .nil
def LawTrue : Prop := ∀ ns : List Int, ns.length ≤ 63 → ∃ st', b_law δlaw (srcOf ns) = some (.rt (.bool true), st')
theorem ok_law (ht : LawTrue) {P : Program} {w : World} {K : PySem.W.Frag} {mg : Str → Option Value} {base : Heap} (M : Ms K mg) {f : Addr} {fd : FuncData} (F : Fun K "law" "law" s_law f fd) : FnG P w K mg base 7 f fd ["script"] (spLawG K) := by
  refine fnG_of F sc_law (fun vs H Q E h => ?_) (fun cdv A outer s H vs Q E hr h => ?_)
  · obtain ⟨a, ns, rfl, _⟩ := h
    rfl
  obtain ⟨a, ns, rfl, hS, hlen, q⟩ := h
  refine ⟨_, pss_cons (ps_set (i := 1) sc_law.nd rfl (.inr rfl) (pe_callG ((ok__law_source M).mono (by decide : 1 ≤ 6)) hr (by rfl) M.g__law_source M.F__law_source.kp M.b__law_source (pa_cons (pv 0) pa_nil)))
    (pss_ex (t := fun os => tB os b_law) fun os => ?rest), ?_⟩
  case rest => exact (bcons (sfor PassesOwn.never rfl (irg1 (by rfl) M.m_range (acons ci anil)) (gnm (pg_name (i := 2) sc_law.nd rfl (.inl rfl))) (bcons (sset (ps_set (i := 3) sc_law.nd rfl (.inl rfl) (esrc ((ok__law_hung M).mono (by decide : 3 ≤ 6)) hr (by rfl) M.g__law_hung M.F__law_hung.kp M.b__law_hung (pv 1) (acons (eit (wk (frz (elstF (acons ci (acons ci (acons ci anil)))))) (nw (pv 2))) (acons (eit (wk (frz (elstF (acons ci (acons ci (acons ci anil)))))) (nw (pv 2))) anil))))) (bcons (sset (ps_set (i := 3) sc_law.nd rfl (.inl rfl) (eif (tcmp (one hr.u64) (wk (eit (nw (pv 3)) (wk ci))) (wk (etup anil))) (nv (pv 3)) (etup (acons ci (acons (etup (acons (etup (acons ci (acons ci anil))) anil)) anil)))))) (bcons (spar (k1 := .v) (k2 := .v) (ps_par (i := 4) (j := 5) rfl sc_law.nd rfl rfl (by decide) rfl rfl (pa_cons (ecB olen (by rfl) M.m_len bt_len (wcons (wk (eit (nw (pv 3)) (wk ci))) wnil)) (pa_cons (ecB (orepr hr.gd hr.u64) (by rfl) M.m_repr bt_repr (wcons (nw (pv 3)) wnil)) pa_nil)) (by rfl))) (bcons (spar (k1 := .v) (k2 := .v) (ps_par (i := 6) (j := 7) rfl sc_law.nd rfl rfl (by decide) rfl rfl (pa_cons (ecT otuple (by rfl) M.m_tuple bt_tuple (wcons (wk (frz (elc (own := [("r", 21)]) rfl sc_law.nd (irg1 (by rfl) M.m_range (acons (nv (pv 4)) anil)) (blkOk_by (N := nm_law) (sc := defScope s_law) (by decide +kernel)) (by decide) (fun _ _ _ _ _ => (gnm (pg_name (i := 21) sc_law.nd rfl (by first | exact .inl rfl | exact .inr rfl)))) (fun _ _ _ _ _ => qnil) (fun _ _ _ _ _ => (esrc ((ok__law_pick M).mono (by decide : 1 ≤ 6)) hr (by rfl) M.g__law_pick M.F__law_pick.kp M.b__law_pick (pv 1) (acons ci anil)))))) wnil)) (pa_cons (ecall ((ok__law_all_turnings M).mono (by decide : 1 ≤ 6)) hr (by rfl) M.g__law_all_turnings M.F__law_all_turnings.kp M.b__law_all_turnings (acons (nv (pv 4)) anil)) pa_nil)) (by rfl))) (bcons (spar (k1 := .v) (k2 := .v) (ps_parC (i := 8) (j := 9) rfl sc_law.nd rfl rfl (by first | exact .inl rfl | exact .inr rfl) (.inl rfl) (.inl rfl) (.inl rfl) (pa_cons (ecall ((ok__law_signs_of M).mono (by decide : 1 ≤ 6)) hr (by rfl) M.g__law_signs_of M.F__law_signs_of.kp M.b__law_signs_of (acons (nv (pv 6)) anil)) (pa_cons (ecall ((ok_simple_ring_rows M).mono (by decide : 3 ≤ 6)) hr (by rfl) M.g_simple_ring_rows M.F_simple_ring_rows.kp M.b_simple_ring_rows (acons (nv (pv 3)) anil)) pa_nil)) (by rfl))) (bcons (spar (k1 := .o) (k2 := .o) (ps_par (i := 10) (j := 11) rfl sc_law.nd rfl rfl (by decide) rfl rfl (pa_cons (elstF anil) (pa_cons (elstF anil) pa_nil)) (by rfl))) (bcons (sfor PassesOwn.never rfl (isq (nv (pv 7))) (gnm (pg_name (i := 12) sc_law.nd rfl (by first | exact .inl rfl | exact .inr rfl))) (bcons (sset (ps_set (i := 13) sc_law.nd rfl (.inl rfl) (ecT otuple (by rfl) M.m_tuple bt_tuple (wcons (wk (frz (elc (own := [("a", 22), ("b", 23)]) rfl sc_law.nd (izp (by rfl) M.m_zip (acons (nv (pv 8)) (acons (ecall ((ok__law_signs_of M).mono (by decide : 1 ≤ 6)) hr (by rfl) M.g__law_signs_of M.F__law_signs_of.kp M.b__law_signs_of (acons (nv (pv 12)) anil)) anil))) (blkOk_by (N := nm_law) (sc := defScope s_law) (by decide +kernel)) (by decide) (fun _ _ _ _ _ => (gtup (n := 2) rfl (gcons (gnm (pg_name (i := 22) sc_law.nd rfl (by first | exact .inl rfl | exact .inr rfl))) (gcons (gnm (pg_name (i := 23) sc_law.nd rfl (by first | exact .inl rfl | exact .inr rfl))) gnil)))) (fun _ _ _ _ _ => qnil) (fun _ _ _ _ _ => (eop ofdiv (wk (eop osub (nw (pv 22)) (nw (pv 23)))) (wk ci)))))) wnil)))) (bone (sif (tcmp oisnot (wk (ecall ((ok__law_heights M).mono (by decide : 2 ≤ 6)) hr (by rfl) M.g__law_heights M.F__law_heights.kp M.b__law_heights (acons (nv (pv 3)) (acons (nv (pv 13)) anil)))) (wk cn)) (bcons (sapp (pv 10) (nv (pv 12))) (bone (sapp (pv 11) (nv (pv 13))))) bnil)))) (bfrz 10 (bcons (sset (ps_set (i := 14) sc_law.nd rfl (.inl rfl) (ecall ((ok_alike_by_cuts M).mono (by decide : 3 ≤ 6)) hr (by rfl) M.g_alike_by_cuts M.F_alike_by_cuts.kp M.b_alike_by_cuts (acons (nv (pv 3)) (acons (nv (pv 6)) anil))))) (bfrz 11 (bcons (sif (tcmp (one hr.u64) (wk (ecB (orepr hr.gd hr.u64) (by rfl) M.m_repr bt_repr (wcons (nw (pv 14)) wnil))) (wk (ecB (orepr hr.gd hr.u64) (by rfl) M.m_repr bt_repr (wcons (wk (ecT otuple (by rfl) M.m_tuple bt_tuple (wcons (nw (pv 10)) wnil))) wnil)))) (bone (sret cb)) bnil) (bcons (sif (PW.pt (wor (tcmp (one hr.u64) (wk (ecall ((ok_nearest_cut_rows M).mono (by decide : 6 ≤ 6)) hr (by rfl) M.g_nearest_cut_rows M.F_nearest_cut_rows.kp M.b_nearest_cut_rows (acons (nv (pv 3)) (acons (etup (acons (nv (pv 8)) (acons ci anil))) anil)))) (wk (frz (ecBF (osort hr.u64) (by rfl) M.m_sorted bt_sorted (wcons (nw (pv 11)) wnil))))) (wor1 (tcmp (one hr.u64) (wk (eld rfl hr.u64 (by rfl) M.m_len (by rfl) M.m_dict (wk (frz (elc (own := [("row", 13)]) rfl sc_law.nd (isq (nv (pv 11))) (blkOk_by (N := nm_law) (sc := defScope s_law) (by decide +kernel)) (by decide) (fun _ _ _ _ _ => (gnm (pg_name (i := 13) sc_law.nd rfl (by first | exact .inl rfl | exact .inr rfl)))) (fun _ _ _ _ _ => qnil) (fun _ _ _ _ _ => (etup (acons (nv (pv 13)) (acons ci anil))))))))) (wk (ecB olen (by rfl) M.m_len bt_len (wcons (nw (pv 11)) wnil))))))) (bone (sret cb)) bnil) (bcons (sfor PassesOwn.never rfl (isq (esl (wk (esrc ((ok__law_mixed M).mono (by decide : 2 ≤ 6)) hr (by rfl) M.g__law_mixed M.F__law_mixed.kp M.b__law_mixed (pv 1) (acons (nv (pv 7)) anil))) pon (posm ci))) (gnm (pg_name (i := 12) sc_law.nd rfl (by first | exact .inl rfl | exact .inr rfl))) (bcons (sset (ps_set (i := 15) sc_law.nd rfl (.inl rfl) (ecmp (oeq hr.u64) (wk (frz (elc (own := [("ring", 24)]) rfl sc_law.nd (isq (nv (pv 9))) (blkOk_by (N := nm_law) (sc := defScope s_law) (by decide +kernel)) (by decide) (fun _ _ _ _ _ => (gnm (pg_name (i := 24) sc_law.nd rfl (by first | exact .inl rfl | exact .inr rfl)))) (fun _ _ _ _ _ => (qone (tcmp (one hr.u64) (wk (ecall ((ok_row_product M).mono (by decide : 1 ≤ 6)) hr (by rfl) M.g_row_product M.F_row_product.kp M.b_row_product (acons (nv (pv 24)) (acons (nv (pv 8)) anil)))) (wk (ecall ((ok_row_product M).mono (by decide : 1 ≤ 6)) hr (by rfl) M.g_row_product M.F_row_product.kp M.b_row_product (acons (nv (pv 24)) (acons (ecall ((ok__law_signs_of M).mono (by decide : 1 ≤ 6)) hr (by rfl) M.g__law_signs_of M.F__law_signs_of.kp M.b__law_signs_of (acons (nv (pv 12)) anil)) anil))))))) (fun _ _ _ _ _ => (nv (pv 24)))))) (wk (frz (elstF anil)))))) (bone (sif (tcmp (one hr.u64) (nw (pv 15)) (wk (ecmp (oin hr.u64) (nw (pv 12)) (nw (pv 14))))) (bone (sret cb)) bnil)))) (bcons (sset (ps_set (i := 16) sc_law.nd rfl (.inl rfl) (esrc ((ok__law_of M).mono (by decide : 2 ≤ 6)) hr (by rfl) M.g__law_of M.F__law_of.kp M.b__law_of (pv 1) (acons (nv (pv 10)) anil)))) (bone (sif (PW.pt (wor (tcmp (one hr.u64) (wk (ecall ((ok_alike_by_cuts M).mono (by decide : 3 ≤ 6)) hr (by rfl) M.g_alike_by_cuts M.F_alike_by_cuts.kp M.b_alike_by_cuts (acons (nv (pv 3)) (acons (nv (pv 16)) anil)))) (nw (pv 14))) (wor1 (tcmp (one hr.u64) (wk (ecB (orepr hr.gd hr.u64) (by rfl) M.m_repr bt_repr (wcons (nw (pv 3)) wnil))) (nw (pv 5)))))) (bone (sret cb)) bnil))))))))))))))))) (bcons (spar3 (k2 := .v) (k3 := .v) (ps_par3 (i := 17) (j := 18) (l := 3) rfl sc_law.nd rfl rfl rfl (by decide) (by decide) (by decide) rfl rfl rfl (pa_cons (ecall ((ok__law_all_turnings M).mono (by decide : 1 ≤ 6)) hr (by rfl) M.g__law_all_turnings M.F__law_all_turnings.kp M.b__law_all_turnings (acons ci anil)) (pa_cons ci (pa_cons (etup (acons ci (acons (etup (acons (etup (acons ci (acons ci anil))) (acons (etup (acons ci (acons ci anil))) (acons (etup (acons ci (acons ci anil))) anil)))) anil))) pa_nil))) (by rfl))) (bcons (swhile fuel_law PassesOwn.never (tcmp (one hr.u64) (nw (pv 17)) (wk (frz (elstF anil)))) (bcons (sset (ps_set (i := 19) sc_law.nd rfl (by first | exact .inl rfl | exact .inr rfl) (ecall ((ok_alike_by_cuts M).mono (by decide : 3 ≤ 6)) hr (by rfl) M.g_alike_by_cuts M.F_alike_by_cuts.kp M.b_alike_by_cuts (acons (nv (pv 3)) (acons (eit (nw (pv 17)) (wk ci)) anil))))) (bone (spar (k1 := .v) (k2 := .v) (ps_par (i := 17) (j := 18) rfl sc_law.nd rfl rfl (by decide) rfl rfl (pa_cons (frz (elc (own := [("one", 20)]) rfl sc_law.nd (isq (nv (pv 17))) (blkOk_by (N := nm_law) (sc := defScope s_law) (by decide +kernel)) (by decide) (fun _ _ _ _ _ => (gnm (pg_name (i := 20) sc_law.nd rfl (by first | exact .inl rfl | exact .inr rfl)))) (fun _ _ _ _ _ => (qone (tcmp (onotin hr.u64) (nw (pv 20)) (nw (pv 19))))) (fun _ _ _ _ _ => (nv (pv 20))))) (pa_cons (eop oadd (nw (pv 18)) (wk ci)) pa_nil)) (by rfl)))))) (bone (sret (eand (ecmp (oeq hr.u64) (nw (pv 18)) (wk ci)) (eone (ecmp (oeq hr.u64) (wk (ecall ((ok_alike_by_cuts M).mono (by decide : 3 ≤ 6)) hr (by rfl) M.g_alike_by_cuts M.F_alike_by_cuts.kp M.b_alike_by_cuts (acons (nv (pv 3)) (acons (etup (acons ci (acons ci (acons ci anil)))) anil)))) (wk (etup (acons (etup (acons ci (acons ci (acons ci anil)))) (acons (etup (acons ci (acons ci (acons ci anil)))) (acons (etup (acons ci (acons ci (acons ci anil)))) anil)))))))))))))
  refine ⟨.ref a, rfl, a, ns, rfl, hS, hlen, fun S L H' sm nS nL sa => ?_⟩
  obtain ⟨st', ht⟩ := ht ns hlen
  refine ⟨some (S, L), δlaw, srcOf ns, fun _ => none, fun b => if b = S ∨ b = L then none else H' b, _, st', ?_, ht, ?_⟩
  · refine ⟨fun b o e => (nomatch e), fun b o e => ?_, fun b o e => .inl rfl, fun i d e => ?_, fun i d e => ?_, fun i j d e p h => ?_, fun i e => ?_, fun S' L' e => ?_, rfl⟩
    · by_cases hb : b = S ∨ b = L
      · rw [if_pos hb] at e; cases e
      · rw [if_neg hb] at e; exact e
    · match i, e with
      | 0, e => cases e
      | 1, e => cases e
      | i + 2, e =>
        have e' : (List.replicate (nm_law.length - 2) Slot.nil)[i]? = some (.val d) := e
        rw [List.getElem?_replicate] at e'
        split at e' <;> cases e'
    · match i, e with
      | 0, e => cases e
      | 1, e => cases e
      | i + 2, e =>
        have e' : (List.replicate (nm_law.length - 2) Slot.nil)[i]? = some (.own d) := e
        rw [List.getElem?_replicate] at e'
        split at e' <;> cases e'
    · match i, h with
      | 0, e => cases e
      | 1, e => cases e
      | i + 2, e =>
        have e' : (List.replicate (nm_law.length - 2) Slot.nil)[i]? = some (.own d) := e
        rw [List.getElem?_replicate] at e'
        split at e' <;> cases e'
    · match i, e with
      | 0, e => cases e
      | 1, e => exact ⟨S, L, rfl, rfl⟩
      | i + 2, e =>
        have e' : (List.replicate (nm_law.length - 2) Slot.nil)[i]? = some .src := e
        rw [List.getElem?_replicate] at e'
        split at e' <;> cases e'
    · cases e
      exact ⟨sa, rfl, rfl, if_pos (.inl rfl), if_pos (.inr rfl)⟩
  · intro v H2 B2 l2 R2 r2
    cases r2
    exact q H2

end VL

/-! Y0: rules for pure steps, typed data (taken over from k53). -/
namespace VL
open PySem PySem.Spec PyProof.Rows L2
/-! ### rules: a pure step -/
section
variable {f g k : Fx D} {fr : Fx (List D)} {t u : Fx Bool} {δ : List Slot} {a b d : D} {xs ys : List D} {c : Bool}
theorem ev2 {h : D → D → Option D} (hf : f δ = mp a) (hg : g δ = mp b) (hh : h a b = some d) : f2 h f g δ = mp d := by unfold f2; rw [hf, mb_mp, hg, mb_mp, hh]; rfl
theorem ev1 {h : D → Option D} (hf : f δ = mp a) (hh : h a = some d) : f1 h f δ = mp d := by unfold f1; rw [hf, mb_mp, hh]; rfl
theorem evc {h : List D → Option D} (hf : fr δ = mp xs) (hh : h xs = some d) : fc h fr δ = mp d := by unfold fc; rw [hf, mb_mp, hh]; rfl
theorem evNil : fNil δ = mp [] := rfl
theorem evCons (hf : f δ = mp a) (hr : fr δ = mp xs) : fCons f fr δ = mp (a :: xs) := by unfold fCons; rw [hf, mb_mp, hr, mb_mp]
theorem evStar (hf : f δ = mp a) (ha : unsD a = some ys) (hr : fr δ = mp xs) : fStar f fr δ = mp (ys ++ xs) := by unfold fStar; rw [hf, mb_mp, ha, ml_mp, mb_mp, hr, mb_mp]
theorem evB (hf : f δ = mp (.bool c)) : fB f δ = mp c := by unfold fB; rw [hf, mb_mp]; rfl
theorem evIfT {α : Type} {f g : Fx α} {x : α} (ht : t δ = mp true) (hf : f δ = mp x) : fIf t f g δ = mp x := by unfold fIf; rw [ht, mb_mp, if_pos rfl, hf]
theorem evIfF {α : Type} {f g : Fx α} {x : α} (ht : t δ = mp false) (hf : g δ = mp x) : fIf t f g δ = mp x := by unfold fIf; rw [ht, mb_mp, if_neg (by decide), hf]
theorem evIf {α : Type} {f g : Fx α} {x : α} (ht : t δ = mp c) (hf : c = true → f δ = mp x) (hg : c = false → g δ = mp x) : fIf t f g δ = mp x := by
  cases c with
  | true => exact evIfT ht (hf rfl)
  | false => exact evIfF ht (hg rfl)
theorem evNot (ht : t δ = mp c) : fNot t δ = mp (!c) := by unfold fNot; rw [ht, mb_mp]
theorem evAnd {c2 : Bool} (ht : t δ = mp c) (hu : c = true → u δ = mp c2) : fAnd t u δ = mp (c && c2) := by
  unfold fAnd; rw [ht, mb_mp]
  cases c with
  | true => rw [if_pos rfl, hu rfl]; rfl
  | false => rfl
theorem evOr {c2 : Bool} (ht : t δ = mp c) (hu : c = false → u δ = mp c2) : fOr t u δ = mp (c || c2) := by
  unfold fOr; rw [ht, mb_mp]
  cases c with
  | true => rfl
  | false => rw [if_neg (by decide), hu rfl]; rfl
theorem evVNot (hf : f δ = mp (.bool c)) : vNot f δ = mp (.bool !c) := by unfold vNot; rw [hf, mb_mp]; rfl
theorem evVAnd {c2 : Bool} (hf : f δ = mp (.bool c)) (hg : c = true → g δ = mp (.bool c2)) : vAnd f g δ = mp (.bool (c && c2)) := by
  unfold vAnd; rw [hf, mb_mp]
  cases c with
  | true => show (if true = true then g δ else mp (.bool false)) = _; rw [if_pos rfl, hg rfl]; rfl
  | false => rfl
theorem evCh {h h' : D → D → Option D} {x y z : D} {c2 : Bool} (hf : f δ = mp x) (hg : g δ = mp y) (h1 : h x y = some (.bool c)) (hk : c = true → k δ = mp z ∧ h' y z = some (.bool c2)) : fCh h h' f g k δ = mp (.bool (c && c2)) := by
  unfold fCh; rw [hf, mb_mp, hg, mb_mp, h1, ml_mp, mb_mp]
  cases c with
  | true =>
    obtain ⟨k1, k2⟩ := hk rfl
    show (if true = true then mb (k δ) (fun w => ml (h' y w)) else mp (.bool false)) = _
    rw [if_pos rfl, k1, mb_mp, k2]; rfl
  | false => rfl
theorem evCall {n : Nat} {foo : List D → Option D} (hr : fr δ = mp xs) (hn : xs.length = n) (hf : foo xs = some d) : fCall n foo fr δ = mp d := by unfold fCall; rw [hr, mb_mp, if_pos hn, hf]; rfl
theorem evSq {ds : List D} (hf : f δ = mp a) (h : seqD a = some ds) : fSq f δ = mp ds := by unfold fSq; rw [hf, mb_mp, h]; rfl
theorem evEn {ds : List D} (hf : f δ = mp a) (h : seqD a = some ds) : fEn f δ = mp (enumD ds) := by unfold fEn enmD; rw [hf, mb_mp, h]; rfl
theorem evR1 {n : Nat} (hf : fr δ = mp [.int (n : Nat)]) (hn : n ≤ sizeLine) : fR1 fr δ = mp (rngD 0 n) := by
  unfold fR1 rgD1; rw [hf, mb_mp]
  show ml (if ((n : Nat) : Int) ≤ (sizeLine : Nat) ∧ -(2 ^ 62) ≤ ((n : Nat) : Int) then some (rngD 0 ((n : Nat) : Int).toNat) else none) = _
  rw [if_pos ⟨by omega, by omega⟩, Int.toNat_natCast]; rfl
theorem evR2 {l n : Nat} (hf : fr δ = mp [.int (l : Nat), .int (n : Nat)]) (hl : l ≤ sizeLine) (hn : n ≤ sizeLine) : fR2 fr δ = mp (rngD (l : Nat) (n - l)) := by
  have := sizeLine_eq
  unfold fR2 rgD2; rw [hf, mb_mp]
  show ml (if -(2 ^ 62) ≤ ((l : Nat) : Int) ∧ ((l : Nat) : Int) < 2 ^ 62 ∧ -(2 ^ 62) ≤ ((n : Nat) : Int) ∧ ((n : Nat) : Int) < 2 ^ 62 ∧ ((n : Nat) : Int) - ((l : Nat) : Int) ≤ (sizeLine : Nat) then some (rngD ((l : Nat) : Int) (((n : Nat) : Int) - ((l : Nat) : Int)).toNat) else none) = _
  rw [if_pos ⟨by omega, by omega, by omega, by omega, by omega⟩, show (((n : Nat) : Int) - ((l : Nat) : Int)).toNat = n - l by omega]; rfl
theorem evON : foN δ = mp none := rfl
theorem evOS {i : Int} (hf : f δ = mp (.int i)) : foS f δ = mp (some i) := by unfold foS; rw [hf, mb_mp]; rfl
theorem evSl {lo hi : Fo} {l h : Option Int} (hf : f δ = mp a) (hl : lo δ = mp l) (hh : hi δ = mp h) (e : slD a l h = some d) : fSl f lo hi δ = mp d := by unfold fSl; rw [hf, mb_mp, hl, mb_mp, hh, mb_mp, e]; rfl
/-- a comprehension whose parts are pure -/
theorem lcGo_pure {α : Type} {gt : D → List Slot → Option (List Slot)} {t : Fx Bool} {e : Fx D} {δ : List Slot} {enc : α → D} (T : α → Bool) (E : α → D) : ∀ (xs : List α), (∀ x ∈ xs, ∃ δ1, gt (enc x) δ = some δ1 ∧ t δ1 = mp (T x) ∧ (T x = true → e δ1 = mp (E x))) →
    lcGo gt t e δ (xs.map enc) = mp ((xs.filter T).map E)
  | [], _ => rfl
  | x :: xs, h => by
    obtain ⟨δ1, h1, h2, h3⟩ := h x (.head _)
    have ih := lcGo_pure (gt := gt) (t := t) (e := e) (δ := δ) (enc := enc) T E xs fun y hy => h y (.tail _ hy)
    rw [List.map_cons]
    unfold lcGo
    rw [h1, ml_mp, mb_mp, h2, mb_mp]
    cases hT : T x with
    | true => rw [if_pos rfl, h3 hT, mb_mp, ih, mb_mp, List.filter_cons_of_pos hT]; rfl
    | false => rw [if_neg (by decide), ih, List.filter_cons_of_neg (by rw [hT]; decide)]
theorem evLc {α : Type} {fi : Fx (List D)} {gt : D → List Slot → Option (List Slot)} {t : Fx Bool} {e : Fx D} {vs : List Nat} {enc : α → D} {zs : List α} (T : α → Bool) (E : α → D) (hi : fi δ = mp (zs.map enc)) (no : noOwn δ vs = true)
    (h : ∀ x ∈ zs, ∃ δ1, gt (enc x) (wipeS δ vs) = some δ1 ∧ t δ1 = mp (T x) ∧ (T x = true → e δ1 = mp (E x))) : lcF fi gt t e vs δ = mp (.list ((zs.filter T).map E)) := by
  unfold lcF
  rw [hi, mb_mp, if_pos no, lcGo_pure T E zs h, mb_mp]
/-- without a test -/
theorem evLc0 {α : Type} {fi : Fx (List D)} {gt : D → List Slot → Option (List Slot)} {e : Fx D} {vs : List Nat} {enc : α → D} {zs : List α} (E : α → D) (hi : fi δ = mp (zs.map enc)) (no : noOwn δ vs = true)
    (h : ∀ x ∈ zs, ∃ δ1, gt (enc x) (wipeS δ vs) = some δ1 ∧ e δ1 = mp (E x)) : lcF fi gt (fun _ => mp true) e vs δ = mp (.list (zs.map E)) := by
  have := evLc (δ := δ) (fi := fi) (gt := gt) (t := fun _ => mp true) (e := e) (vs := vs) (enc := enc) (zs := zs) (fun _ => true) E hi no fun x hx => let ⟨δ1, h1, h2⟩ := h x hx; ⟨δ1, h1, rfl, fun _ => h2⟩
  rw [List.filter_eq_self.mpr fun _ _ => rfl] at this
  exact this
/-! statements -/
variable {p q : Fx Flow} {δ' : List Slot} {fl : Flow}
theorem evSeq (hp : p δ = mp (.nx δ')) (hq : q δ' = mp fl) : fSeq p q δ = mp fl := by unfold fSeq; rw [hp, mb_mp]; exact hq
theorem evSeqR (hp : p δ = mp (.rt d)) : fSeq p q δ = mp (.rt d) := by unfold fSeq; rw [hp, mb_mp]; rfl
theorem evSet {i : Nat} (hf : f δ = mp d) : sSet i f δ = mp (.nx (δ.set i (.val d))) := by unfold sSet; rw [hf, mb_mp]
theorem evOwn {i : Nat} (hf : f δ = mp d) : sOwn i f δ = mp (.nx (δ.set i (.own d))) := by unfold sOwn; rw [hf, mb_mp]
theorem evTo {gt : D → List Slot → Option (List Slot)} (hf : f δ = mp d) (hg : gt d δ = some δ') : sTo gt f δ = mp (.nx δ') := by unfold sTo; rw [hf, mb_mp, hg, ml_mp, mb_mp]
theorem evPar {i j : Nat} {k1 k2 : Knd} (hf : f δ = mp a) (hg : g δ = mp b) : sPar i j k1 k2 f g δ = mp (.nx ((δ.set i (slotK k1 a)).set j (slotK k2 b))) := by unfold sPar; rw [hf, mb_mp, hg, mb_mp]
theorem evRet (hf : f δ = mp d) : sRet f δ = mp (.rt d) := by unfold sRet; rw [hf, mb_mp]
theorem evRun {n : Nat} {body : Fx Flow} {ds : List D} (h : body (ds.map Slot.val ++ List.replicate (n - ds.length) .nil) = mp (.rt d)) : runP n body ds = some d := by unfold runP; rw [h]; rfl
/-- an if statement that returns, or goes on -/
theorem evIfR (ht : t δ = mp c) (hp : c = true → p δ = mp (.rt d)) (hq : c = false → q δ = mp (.rt d)) : fSeq (fIf t p (fun δ => mp (.nx δ))) q δ = mp (.rt d) := by
  cases c with
  | true => exact evSeqR (evIfT ht (hp rfl))
  | false => exact evSeq (evIfF ht rfl) (hq rfl)
end

/-! ### operations on typed data -/
theorem item_nat {ds : List D} {i : Nat} {d : D} (h : ds[i]? = some d) : itemD (.tuple ds) (.int (i : Nat)) = some d := atI_nat h
theorem itemL_nat {ds : List D} {i : Nat} {d : D} (h : ds[i]? = some d) : itemD (.list ds) (.int (i : Nat)) = some d := atI_nat h
def intsD (ns : List Int) : List D := ns.map PyData.int
/-- frames, marks, lots -/
def pD (p : Nat × Nat) : D := .tuple [.int (p.1 : Nat), .int (p.2 : Nat)]
def fD (n : Nat) (ps : List (Nat × Nat)) : D := .tuple [.int (n : Nat), .tuple (ps.map pD)]
def mD (ms : List Int) : D := .tuple (ms.map PyData.int)
def nD (ns : List Nat) : D := .tuple (ns.map fun i => PyData.int (i : Nat))
theorem fD0 (n : Nat) (ps : List (Nat × Nat)) : itemD (fD n ps) (.int 0) = some (.int (n : Nat)) := item_nat (i := 0) rfl
theorem fD1 (n : Nat) (ps : List (Nat × Nat)) : itemD (fD n ps) (.int 1) = some (.tuple (ps.map pD)) := item_nat (i := 1) rfl
theorem pD0 (p : Nat × Nat) : itemD (pD p) (.int 0) = some (.int (p.1 : Nat)) := item_nat (i := 0) rfl
theorem pD1 (p : Nat × Nat) : itemD (pD p) (.int 1) = some (.int (p.2 : Nat)) := item_nat (i := 1) rfl
theorem eq_int (i j : Int) : eqD (.int i) (.int j) = some (.bool (decide (i = j))) := by
  unfold eqD
  rw [if_pos (by simp [okEq])]
  have : PyData.eqv (.int i) (.int j) = decide (i = j) := by simp [PyData.eqv]; rfl
  rw [this]
theorem ne_int (i j : Int) : neD (.int i) (.int j) = some (.bool (!decide (i = j))) := by
  show (if okEq (.int i) 60 (.int j) = true then some (PyData.bool (!PyData.eqv (.int i) (.int j))) else none) = _
  rw [if_pos (by simp [okEq])]
  have : PyData.eqv (.int i) (.int j) = decide (i = j) := by simp [PyData.eqv]; rfl
  rw [this]
theorem tup_ok {xs : List D} (h : xs.length ≤ sizeLine) : tupD xs = some (.tuple xs) := if_pos h
theorem lst_ok {xs : List D} (h : xs.length ≤ sizeLine) : lstD xs = some (.list xs) := if_pos h
theorem small16 {n : Nat} (h : n ≤ 65536) : n ≤ sizeLine := by have := sizeLine_eq; omega
theorem fdiv2 (e : Nat) : fdivD (.int (e : Nat)) (.int 2) = some (.int ((e / 2 : Nat))) := by
  show (if CDivN (e : Int) 2 then some (PyData.int ((e : Int).fdiv 2)) else none) = _
  rw [if_pos ⟨by decide, by decide⟩, Int.fdiv_eq_ediv_of_nonneg _ (by decide)]
  rfl
theorem mod2 (e : Nat) : modD (.int (e : Nat)) (.int 2) = some (.int ((e % 2 : Nat))) := by
  show (if (2 : Int) ≠ 0 then some (PyData.int ((e : Int).fmod 2)) else none) = _
  rw [if_pos (by decide), Int.fmod_eq_emod_of_nonneg _ (by decide)]
  rfl
theorem mul_2 (i : Int) : mulD (.int 2) (.int i) = some (.int (2 * i)) := by
  show (if CMul 2 i then some (PyData.int (2 * i)) else none) = _
  rw [if_pos (.inl ⟨by decide, by decide⟩)]
theorem in_ints (x : Int) (ns : List Int) : inD (.int x) (.tuple (ns.map PyData.int)) = some (.bool (decide (x ∈ ns))) := by
  show inA _ _ = _
  unfold inA
  rw [if_pos (List.all_eq_true.mpr fun y hy => by
    obtain ⟨i, _, rfl⟩ := List.mem_map.mp hy
    simp [okEq])]
  congr 2
  induction ns with
  | nil => simp
  | cons n r ih =>
    rw [List.map_cons, List.any_cons, ih]
    have e : PyData.eqv (.int n) (.int x) = decide (x = n) := by
      simp only [PyData.eqv]
      by_cases h : n = x
      · subst h; simp
      · rw [beq_eq_false_iff_ne.mpr h]; simp [Ne.symm h]
    rw [e]
    simp [List.mem_cons]
theorem notin_ints (x : Int) (ns : List Int) : notInD (.int x) (.tuple (ns.map PyData.int)) = some (.bool (!decide (x ∈ ns))) := by
  unfold notInD; rw [in_ints]; rfl
theorem eq_nil (ds : List D) : eqD (.list ds) (.list []) = some (.bool ds.isEmpty) := by
  unfold eqD
  cases ds with
  | nil => rfl
  | cons d r =>
    rw [if_pos (by rw [okEq_list]; rfl)]
    simp [PyData.eqv, PyData.eqvAll]
theorem ne_nil (ds : List D) : neD (.list ds) (.list []) = some (.bool (!ds.isEmpty)) := by
  show (if okEq (.list ds) 60 (.list []) = true then some (PyData.bool (!PyData.eqv (.list ds) (.list []))) else none) = _
  cases ds with
  | nil => rfl
  | cons d r =>
    rw [if_pos (by rw [okEq_list]; rfl)]
    simp [PyData.eqv, PyData.eqvAll]
/-! ### ends -/
def tailE (ps : List (Nat × Nat)) (e : Nat) : Nat := if e % 2 = 0 then (ps.getD (e / 2) (0, 0)).1 else (ps.getD (e / 2) (0, 0)).2
def headE (ps : List (Nat × Nat)) (e : Nat) : Nat := if e % 2 = 0 then (ps.getD (e / 2) (0, 0)).2 else (ps.getD (e / 2) (0, 0)).1
theorem ps_at {ps : List (Nat × Nat)} {r : Nat} (h : r < ps.length) : (ps.map pD)[r]? = some (pD (ps.getD r (0, 0))) := by
  rw [List.getElem?_map, List.getElem?_eq_getElem h, List.getD_eq_getElem?_getD, List.getElem?_eq_getElem h]; rfl
theorem ms_at {ms : List Int} {r : Nat} (h : r < ms.length) : (ms.map PyData.int)[r]? = some (.int (ms.getD r 0)) := by
  rw [List.getElem?_map, List.getElem?_eq_getElem h, List.getD_eq_getElem?_getD, List.getElem?_eq_getElem h]; rfl
theorem m_at {ms : List Int} {r : Nat} (h : r < ms.length) : itemD (mD ms) (.int (r : Nat)) = some (.int (ms.getD r 0)) := item_nat (ms_at h)
theorem p_at {ps : List (Nat × Nat)} {r : Nat} (h : r < ps.length) : itemD (.tuple (ps.map pD)) (.int (r : Nat)) = some (pD (ps.getD r (0, 0))) := item_nat (ps_at h)
theorem pd_mod (p : Nat × Nat) (e : Nat) : itemD (pD p) (.int ((e % 2 : Nat))) = some (.int ((if e % 2 = 0 then p.1 else p.2 : Nat))) := by
  rcases Nat.mod_two_eq_zero_or_one e with h | h
  · rw [h]; exact pD0 p
  · rw [h]; exact pD1 p
theorem pd_mod' (p : Nat × Nat) (e : Nat) : itemD (pD p) (.int (1 - ((e % 2 : Nat) : Int))) = some (.int ((if e % 2 = 0 then p.2 else p.1 : Nat))) := by
  rcases Nat.mod_two_eq_zero_or_one e with h | h
  · rw [h]; exact pD1 p
  · rw [h]; exact pD0 p
/-! ### loops -/
theorem forF_pure {α σ : Type} {g : D → List Slot → Option (List Slot)} {b : Fx Flow} (enc : α → D) (rep : σ → List Slot → Prop) (step : σ → α → σ) : ∀ (xs : List α), (∀ s x δ, x ∈ xs → rep s δ → ∃ δ1 δ2, g (enc x) δ = some δ1 ∧ b δ1 = mp (.nx δ2) ∧ rep (step s x) δ2) →
    ∀ s δ, rep s δ → ∃ δ', forF g b (xs.map enc) δ = mp (.nx δ') ∧ rep (xs.foldl step s) δ'
  | [], _, s, δ, r => ⟨δ, rfl, r⟩
  | x :: xs, h, s, δ, r => by
    obtain ⟨δ1, δ2, h1, h2, h3⟩ := h s x δ (.head _) r
    obtain ⟨δ', h4, h5⟩ := forF_pure enc rep step xs (fun s y δ hy => h s y δ (.tail _ hy)) _ _ h3
    refine ⟨δ', ?_, h5⟩
    rw [List.map_cons]
    unfold forF
    rw [h1, ml_mp, mb_mp, h2, mb_mp]
    exact h4
def runW {σ : Type} (cond : σ → Bool) (step : σ → σ) : Nat → σ → Option σ
  | 0, _ => none
  | n + 1, s => if cond s = true then runW cond step n (step s) else some s
theorem whF_pure {σ : Type} {c : Fx Bool} {b : Fx Flow} (rep : σ → List Slot → Prop) (cond : σ → Bool) (step : σ → σ) (h : ∀ s δ, rep s δ → c δ = mp (cond s) ∧ (cond s = true → ∃ δ', b δ = mp (.nx δ') ∧ rep (step s) δ')) :
    ∀ (n : Nat) (s s' : σ) (δ : List Slot), rep s δ → runW cond step n s = some s' → ∃ δ', whF c b n δ = mp (.nx δ') ∧ rep s' δ'
  | 0, s, s', δ, r, e => by cases e
  | n + 1, s, s', δ, r, e => by
    obtain ⟨h1, h2⟩ := h s δ r
    unfold runW at e
    unfold whF
    rw [h1, mb_mp]
    cases hc : cond s with
    | true =>
      rw [hc, if_pos rfl] at e
      obtain ⟨δ1, h3, h4⟩ := h2 hc
      obtain ⟨δ', h5, h6⟩ := whF_pure rep cond step h n _ _ δ1 h4 e
      refine ⟨δ', ?_, h6⟩
      rw [if_pos rfl, h3, mb_mp]
      exact h5
    | false =>
      rw [hc, if_neg (by decide)] at e
      cases e
      exact ⟨δ, by rw [if_neg (by decide)], r⟩
section
variable {f g : Fx D} {δ : List Slot} {a b d : D}
theorem evDi1 {k : Key} (hf : f δ = mp a) (hk : keyOf a = some k) (hg : g δ = mp d) : fDi1 f g δ = mp (.dict [(kD k, d)]) := by unfold fDi1; rw [hf, mb_mp, hg, mb_mp, hk]; rfl
theorem evPop0 {i j : Nat} {δ' : List Slot} (h : pop0D i j δ = some δ') : sPop0 i j δ = mp (.nx δ') := by unfold sPop0; rw [h, ml_mp, mb_mp]
theorem evPut {i : Nat} {k : D} {δ' : List Slot} (hf : f δ = mp d) (hg : g δ = mp k) (h : putD i k d δ = some δ') : sPut i f g δ = mp (.nx δ') := by unfold sPut; rw [hf, mb_mp, hg, mb_mp, h, ml_mp, mb_mp]
theorem evApp {i : Nat} {δ' : List Slot} (hf : f δ = mp d) (h : appD i d δ = some δ') : sApp i f δ = mp (.nx δ') := by unfold sApp; rw [hf, mb_mp, h, ml_mp, mb_mp]
theorem evFor {fi : Fx (List D)} {gt : D → List Slot → Option (List Slot)} {b : Fx Flow} {ds : List D} {fl : Flow} (hi : fi δ = mp ds) (h : forF gt b ds δ = mp fl) : sFor fi gt b δ = mp fl := by unfold sFor; rw [hi, mb_mp]; exact h
end
def nL (l : List Nat) : List D := l.map fun i => PyData.int (i : Nat)
theorem rng0 (n : Nat) : rngD 0 n = (List.range n).map fun k => PyData.int (k : Nat) := by
  unfold rngD
  exact List.map_congr_left fun k _ => by rw [Int.zero_add]
theorem len_t (ds : List D) : lenD [.tuple ds] = some (.int (ds.length : Nat)) := rfl
theorem len_l (ds : List D) : lenD [.list ds] = some (.int (ds.length : Nat)) := rfl
theorem len_m (ms : List Int) : lenD [mD ms] = some (.int (ms.length : Nat)) := by
  show some (PyData.int ((ms.map PyData.int).length : Nat)) = _
  rw [List.length_map]
theorem mul2n (m : Nat) : mulD (.int 2) (.int (m : Nat)) = some (.int ((2 * m : Nat))) := by rw [mul_2]; congr 2
theorem int_eq_nat (a b : Nat) : decide (((a : Nat) : Int) = ((b : Nat) : Int)) = decide (a = b) := by
  by_cases h : a = b
  · subst h; simp
  · rw [decide_eq_false h, decide_eq_false (by omega)]
theorem nL_len (l : List Nat) : (nL l).length = l.length := by unfold nL; rw [List.length_map]
theorem neg1 : negD (.int 1) = some (.int (-1)) := rfl
theorem in_nats (x : Nat) (l : List Nat) : inD (.int (x : Nat)) (nD l) = some (.bool (decide (x ∈ l))) := by
  have := in_ints (x : Nat) (l.map fun i => ((i : Nat) : Int))
  rw [List.map_map] at this
  refine this.trans ?_
  congr 2
  by_cases h : x ∈ l
  · rw [decide_eq_true h, decide_eq_true (List.mem_map.mpr ⟨x, h, rfl⟩)]
  · rw [decide_eq_false h, decide_eq_false fun z => by
      obtain ⟨y, hy, e⟩ := List.mem_map.mp z
      exact h (by have : y = x := by omega
                  exact this ▸ hy)]
def inI (x : Nat) (l : List Nat) : Int := if x ∈ l then 1 else 0
def rowOf (ps : List (Nat × Nat)) (l : List Nat) : List Int := ps.map fun p => inI p.1 l - inI p.2 l
theorem int_bl (b : Bool) : intD [.bool b] = some (.int (if b then 1 else 0)) := rfl
theorem seq_t {ds : List D} (h : ds.length ≤ sizeLine) : seqD (.tuple ds) = some ds := if_pos h
theorem seq_l {ds : List D} (h : ds.length ≤ sizeLine) : seqD (.list ds) = some ds := if_pos h
theorem inI_ev (x : Nat) (l : List Nat) : (if decide (x ∈ l) then (1 : Int) else 0) = inI x l := by unfold inI; by_cases h : x ∈ l <;> simp [h]
theorem sp_row_of_lot {n : Nat} {ps : List (Nat × Nat)} {l : List Nat} (h : ps.length ≤ 1000) : sem_row_of_lot [fD n ps, nD l] = some (mD (rowOf ps l)) := by
  refine evRun (evRet (evc (evCons (evLc0 (enc := pD) (zs := ps) (fun p => PyData.int (inI p.1 l - inI p.2 l)) (evSq (ev2 rfl rfl (fD1 n ps)) (seq_t (by rw [List.length_map]; exact small16 (by omega)))) rfl fun p hp => ⟨_, rfl, ?_⟩) evNil) ?_))
  · refine ev2 (evc (evCons (ev2 rfl rfl (in_nats _ l)) evNil) (int_bl _)) (evc (evCons (ev2 rfl rfl (in_nats _ l)) evNil) (int_bl _)) ?_
    rw [inI_ev, inI_ev]
    rfl
  · unfold mD rowOf
    rw [List.map_map]
    rfl
theorem enum_map {α : Type} (f : α → D) (xs : List α) : enumD (xs.map f) = xs.zipIdx.map fun p => PyData.tuple [.int (p.2 : Nat), f p.1] := by
  unfold enumD
  rw [List.zipIdx_map, List.map_map]
  rfl
def wayCut (ps : List (Nat × Nat)) (ms : List Int) (l : List Nat) : Bool := ((rowOf ps l).zipIdx.filter fun p => !decide (p.1 = 0) && !decide (ms.getD p.2 0 = p.1)).isEmpty
theorem rowOf_len (ps : List (Nat × Nat)) (l : List Nat) : (rowOf ps l).length = ps.length := by unfold rowOf; rw [List.length_map]
theorem zip_lt {α : Type} {xs : List α} {p : α × Nat} (h : p ∈ xs.zipIdx) : p.2 < xs.length ∧ xs[p.2]? = some p.1 := by
  have := List.mem_zipIdx_iff_getElem?.mp h
  exact ⟨(List.getElem?_eq_some_iff.mp this).1, this⟩
theorem isEmpty_map {α β : Type} (f : α → β) (l : List α) : (l.map f).isEmpty = l.isEmpty := by cases l <;> rfl
theorem rng1 (m : Nat) : rngD ((1 : Nat) : Int) m = (List.range m).map fun k => PyData.int ((k + 1 : Nat)) := by
  unfold rngD
  exact List.map_congr_left fun k _ => congrArg PyData.int (by omega)
theorem nL_at {l : List Nat} {k : Nat} (h : k < l.length) : (nL l)[k]? = some (.int (l.getD k 0 : Nat)) := by
  unfold nL
  rw [List.getElem?_map, List.getD_eq_getElem?_getD, List.getElem?_eq_getElem h]; rfl
theorem isEmpty_false {α : Type} {l : List α} (h : l.isEmpty = false) : l ≠ [] := fun z => by subst z; cases h
def dedupT {α : Type} [DecidableEq α] : List α → List α
  | [] => []
  | a :: r => a :: (dedupT r).filter fun x => !decide (x = a)
theorem eq_bool (a b : Bool) : eqD (.bool a) (.bool b) = some (.bool (a == b)) := by
  unfold eqD
  rw [if_pos (by simp [okEq])]
  simp [PyData.eqv]
theorem evVOr {f g : Fx D} {δ : List Slot} {c c2 : Bool} (hf : f δ = mp (.bool c)) (hg : c = false → g δ = mp (.bool c2)) : vOr f g δ = mp (.bool (c || c2)) := by
  unfold vOr; rw [hf, mb_mp]
  cases c with
  | true => rfl
  | false => show (if false = true then mp (.bool true) else g δ) = _; rw [if_neg (by decide), hg rfl]; rfl
theorem int_i (i : Int) : intD [.int i] = some (.int i) := rfl
theorem keysP_map {α : Type} (f : α → D) (g : α → D) : ∀ l : List α, keysP (l.map fun a => PyData.tuple [f a, g a]) = some (l.map f)
  | [] => rfl
  | a :: r => by
    rw [List.map_cons, List.map_cons]
    show (keysP (r.map fun a => PyData.tuple [f a, g a])).map (f a :: ·) = _
    rw [keysP_map f g r]; rfl
theorem dedup_map {α : Type} [DecidableEq α] (f : α → D) (h : ∀ a b, PyData.eqv (f a) (f b) = decide (a = b)) : ∀ l : List α, dedupD (l.map f) = (dedupT l).map f
  | [] => rfl
  | a :: r => by
    rw [List.map_cons]
    show f a :: (dedupD (r.map f)).filter (fun x => !PyData.eqv x (f a)) = _
    rw [dedup_map f h r, List.filter_map]
    show _ = f a :: ((dedupT r).filter fun x => !decide (x = a)).map f
    congr 3
    funext x
    show (!PyData.eqv (f x) (f a)) = !decide (x = a)
    rw [h]
theorem eqv_nat (a b : Nat) : PyData.eqv (.int (a : Nat)) (.int (b : Nat)) = decide (a = b) := by
  simp only [PyData.eqv]
  by_cases h : a = b
  · subst h; simp
  · rw [decide_eq_false h, beq_eq_false_iff_ne]; omega
theorem dedup_len {α : Type} [DecidableEq α] : ∀ l : List α, (dedupT l).length ≤ l.length
  | [] => Nat.le_refl _
  | a :: r => by
    unfold dedupT
    have := dedup_len r
    have := List.length_filter_le (fun x => !decide (x = a)) (dedupT r)
    rw [List.length_cons, List.length_cons]; omega
end VL

/-! Y1: what is drawn (taken over from k53). -/
namespace VL
open PySem PySem.Spec PyProof.Rows L2
def Inv (s : Src) : Prop := s.cells.length ≤ 63
/-- ends well from any source, with Q -/
def Ok {α : Type} (x : M α) (Q : α → Prop) : Prop := ∀ s, Inv s → ∃ a s', x s = some (a, s') ∧ Inv s' ∧ Q a
theorem Ok.mp {α : Type} {a : α} {Q : α → Prop} (h : Q a) : Ok (VL.mp a) Q := fun s i => ⟨a, s, rfl, i, h⟩
theorem Ok.of {α : Type} {x : M α} {a : α} {Q : α → Prop} (e : x = VL.mp a) (h : Q a) : Ok x Q := e ▸ Ok.mp h
theorem Ok.mb {α β : Type} {x : M α} {f : α → M β} {P : α → Prop} {Q : β → Prop} (hx : Ok x P) (hf : ∀ a, P a → Ok (f a) Q) : Ok (VL.mb x f) Q := fun s i => by
  obtain ⟨a, s1, e, i1, p⟩ := hx s i
  obtain ⟨b, s2, e2, i2, q⟩ := hf a p s1 i1
  refine ⟨b, s2, ?_, i2, q⟩
  unfold VL.mb
  rw [e]; exact e2
theorem Ok.wk {α : Type} {x : M α} {P Q : α → Prop} (h : Ok x P) (k : ∀ a, P a → Q a) : Ok x Q := fun s i =>
  let ⟨a, s1, e, i1, p⟩ := h s i
  ⟨a, s1, e, i1, k a p⟩
def cPick : Fx Bool := (fAnd (fB (f2 gtD (gw 1) (fun _ => mp (.int 1)))) (fAnd (fB (f2 ltD (fGet 0 .left) (fun _ => mp (.int 2)))) (fB (f2 gtD (fLenC 0) (fun _ => mp (.int 0))))))
theorem cPick_at (m : Nat) (x2 x3 : Slot) (s : Src) : cPick [.src, .val (.int (m : Nat)), x2, x3] s = some (decide (1 < (m : Int)) && (decide (s.left < 2) && decide (0 < ((s.cells.length : Nat) : Int))), s) := by
  have h1 : fB (f2 gtD (gw 1) (fun _ => mp (.int 1))) [.src, .val (.int (m : Nat)), x2, x3] = mp (decide (1 < (m : Int))) := evB (ev2 rfl rfl rfl)
  unfold cPick fAnd
  rw [h1, mb_mp]
  cases decide (1 < (m : Int)) with
  | false => rfl
  | true =>
    show (match (some (decide (s.left < 2), s) : Option (Bool × Src)) with
      | some (a, s') => (if a = true then fB (f2 gtD (fLenC 0) (fun _ => mp (.int 0))) [.src, .val (.int (m : Nat)), x2, x3] else mp false) s'
      | none => none) = _
    cases decide (s.left < 2) with
    | false => rfl
    | true => rfl
theorem pick_loop (m : Nat) (x2 x3 : Slot) : ∀ (f : Nat) (s : Src), s.cells.length < f → ∃ s', whF cPick (sPopS 0) f [.src, .val (.int (m : Nat)), x2, x3] s = some (.nx [.src, .val (.int (m : Nat)), x2, x3], s') ∧ s'.cells.length ≤ s.cells.length
  | 0, s, h => by omega
  | f + 1, s, h => by
    have hc := cPick_at m x2 x3 s
    show ∃ s', mb (cPick [.src, .val (.int (m : Nat)), x2, x3]) _ s = _ ∧ _
    unfold mb
    rw [hc]
    cases hb : (decide (1 < (m : Int)) && (decide (s.left < 2) && decide (0 < ((s.cells.length : Nat) : Int)))) with
    | false => exact ⟨s, rfl, Nat.le_refl _⟩
    | true =>
      rw [Bool.and_eq_true, Bool.and_eq_true] at hb
      have hp := of_decide_eq_true hb.2.2
      cases hl : s.cells.getLast? with
      | none =>
        have := List.getLast?_eq_none_iff.mp hl
        rw [this] at hp
        exact absurd hp (by decide)
      | some v =>
        have hd : ({ s with cells := s.cells.dropLast, left := v } : Src).cells.length < f := by
          show s.cells.dropLast.length < f
          rw [List.length_dropLast]; omega
        obtain ⟨s', e, l⟩ := pick_loop m x2 x3 f _ hd
        have hpop : sPopS 0 [.src, .val (.int (m : Nat)), x2, x3] s = some (.nx [.src, .val (.int (m : Nat)), x2, x3], { s with cells := s.cells.dropLast, left := v }) := by
          unfold sPopS
          rw [hl]; rfl
        refine ⟨s', ?_, Nat.le_trans l (by show s.cells.dropLast.length ≤ _; rw [List.length_dropLast]; omega)⟩
        dsimp only
        rw [if_pos rfl, hpop]
        exact e
theorem seqS {p q : Fx Flow} {δ δ' : List Slot} {s s' : Src} (h : p δ s = some (.nx δ', s')) : fSeq p q δ s = q δ' s' := by
  unfold fSeq mb; rw [h]; rfl
theorem seqP {p q : Fx Flow} {δ δ' : List Slot} {s : Src} (h : p δ = mp (.nx δ')) : fSeq p q δ s = q δ' s := seqS (by rw [h]; rfl)
theorem putS {k : SK} {f : Fx D} {δ : List Slot} {s : Src} {i : Int} (hf : f δ s = some (.int i, s)) (h0 : δ[0]? = some .src) : sPutS 0 k f δ s = some (.nx δ, k.put s i) := by
  unfold sPutS mb; rw [hf]
  dsimp only
  rw [h0]
theorem max1 (m : Nat) : maxD [.int 1, .int (m : Nat)] = some (.int ((max 1 m : Nat) : Int)) := by
  show some (PyData.int (if (m : Int) > 1 then (m : Int) else 1)) = _
  congr 2
  split <;> omega
theorem fmod_below (a : Int) {k : Nat} (h : 0 < k) : ∃ r : Nat, a.fmod (k : Int) = (r : Int) ∧ r < k := by
  have h1 := Int.fmod_nonneg_of_pos a (show (0 : Int) < (k : Int) by omega)
  have h2 := Int.fmod_lt_of_pos a (show (0 : Int) < (k : Int) by omega)
  exact ⟨(a.fmod k).toNat, by omega, by omega⟩
theorem cmulR {i j : Int} (h1 : -(2 ^ 64) < j) (h2 : j < 2 ^ 64) : mulD (.int i) (.int j) = some (.int (i * j)) := if_pos (.inr ⟨h1, h2⟩)
theorem modD_int {i j : Int} (h : j ≠ 0) : modD (.int i) (.int j) = some (.int (i.fmod j)) := if_pos h
theorem fdivD_int {i j : Int} (h : j ≠ 0) (h2 : j.natAbs < 1073741824) : fdivD (.int i) (.int j) = some (.int (i.fdiv j)) := if_pos ⟨h, h2⟩
theorem evS2 {h : D → D → Option D} {f g : Fx D} {δ : List Slot} {s : Src} {a b d : D} (hf : f δ s = some (a, s)) (hg : g δ s = some (b, s)) (hh : h a b = some d) : f2 h f g δ s = some (d, s) := by
  unfold f2 mb
  rw [hf]; dsimp only
  rw [hg]; dsimp only
  rw [hh]; rfl
theorem evS1 {f : Fx D} {δ : List Slot} {s : Src} {i : Int} (hf : f δ s = some (.int i, s)) : fc intD (fCons f fNil) δ s = some (.int i, s) := by
  unfold fc fCons mb
  dsimp only
  rw [hf]; rfl
theorem setS {j : Nat} {f : Fx D} {δ : List Slot} {s : Src} {d : D} (hf : f δ s = some (d, s)) : sSet j f δ s = some (.nx (δ.set j (.val d)), s) := by
  unfold sSet mb
  rw [hf]; rfl
theorem retS {f : Fx D} {δ : List Slot} {s : Src} {d : D} (hf : f δ s = some (d, s)) : sRet f δ s = some (.rt d, s) := by
  unfold sRet mb
  rw [hf]; rfl
theorem sp_pick {m : Nat} (hm : m < 1000000) : Ok (sem__law_pick [.int (m : Nat)]) (fun d => ∃ k : Nat, d = .int (k : Nat) ∧ k < max 1 m) := fun s i => by
  obtain ⟨s1, e1, l1⟩ := pick_loop m .nil .nil 80 s (by unfold Inv at i; omega)
  have i1 : Inv s1 := Nat.le_trans l1 i
  have mx : ((max 1 m : Nat) : Int) ≠ 0 := by omega
  have fin : ∃ d s', b__law_pick [.src, .val (.int (m : Nat)), .nil, .nil] s = some (.rt d, s') ∧ Inv s' ∧ ∃ k : Nat, d = .int (k : Nat) ∧ k < max 1 m := by
    unfold b__law_pick
    rw [show fuel__law_pick = 80 from rfl]
    rw [show (fSeq (whF (fAnd (fB (f2 gtD (gw 1) (fun _ => mp (.int 1)))) (fAnd (fB (f2 ltD (fGet 0 .left) (fun _ => mp (.int 2)))) (fB (f2 gtD (fLenC 0) (fun _ => mp (.int 0)))))) (sPopS 0) 80) _) [.src, .val (.int (m : Nat)), .nil, .nil] s = _ from seqS e1]
    rw [seqS (setS (j := 2) (f := fGet 0 .left) (d := .int s1.left) rfl)]
    have ht : fOr (fB (f2 ltD (gw 1) (fun _ => mp (.int 2)))) (fB (f2 gtD (gw 2) (fun _ => mp (.int 1)))) ([Slot.src, .val (.int (m : Nat)), .nil, .nil].set 2 (.val (.int s1.left))) = mp (decide ((m : Int) < 2) || decide (1 < s1.left)) := evOr (evB (ev2 rfl rfl rfl)) fun _ => evB (ev2 rfl rfl rfl)
    cases hc : (decide ((m : Int) < 2) || decide (1 < s1.left)) with
    | true =>
      rw [hc] at ht
      obtain ⟨k, hk, hkl⟩ := fmod_below s1.left (k := max 1 m) (by omega)
      have hb : fSeq (sPutS 0 .left (f2 fdivD (gw 2) (fc maxD (fCons (fun _ => mp (.int 1)) (fCons (gw 1) fNil))))) (sRet (f2 modD (fc intD (fCons (gw 2) fNil)) (fc maxD (fCons (fun _ => mp (.int 1)) (fCons (gw 1) fNil))))) ([Slot.src, .val (.int (m : Nat)), .nil, .nil].set 2 (.val (.int s1.left))) s1 = some (.rt (.int (k : Nat)), SK.left.put s1 (s1.left.fdiv ((max 1 m : Nat) : Int))) := by
        rw [seqS (putS (evS2 (a := .int s1.left) (b := .int ((max 1 m : Nat) : Int)) rfl (by rw [evc (evCons rfl (evCons rfl evNil)) (max1 m)]; rfl) (fdivD_int mx (by omega))) rfl)]
        rw [retS (evS2 (a := .int s1.left) (b := .int ((max 1 m : Nat) : Int)) (evS1 rfl) (by rw [evc (evCons rfl (evCons rfl evNil)) (max1 m)]; rfl) (modD_int mx)), hk]
      refine ⟨.int (k : Nat), SK.left.put s1 (s1.left.fdiv ((max 1 m : Nat) : Int)), ?_, ?_, k, rfl, hkl⟩
      · unfold fSeq fIf mb
        rw [ht]
        dsimp only [mp]
        rw [if_pos rfl]
        have hb' := hb
        unfold fSeq mb at hb'
        rw [hb']; rfl
      · unfold Inv; rw [put_cells]; exact i1
    | false =>
      rw [hc] at ht
      have hm2 : 2 ≤ m := by
        rw [Bool.or_eq_false_iff] at hc
        have := of_decide_eq_false hc.1
        omega
      rw [seqP (evIfF ht rfl)]
      rw [seqS (putS (k := .turn) (i := s1.turn + 1) (evS2 (a := .int s1.turn) (b := .int 1) rfl rfl rfl) rfl)]
      have g1 := fmod_below (s1.mixed + (s1.turn + 1) * 104729) (k := 998244353) (by omega)
      obtain ⟨a, ha, hal⟩ := g1
      rw [seqS (setS (j := 3) (d := .int (a : Nat)) (evS2 (a := .int (s1.mixed + (s1.turn + 1) * 104729)) (b := .int 998244353) (evS1 (evS2 (a := .int s1.mixed) (b := .int ((s1.turn + 1) * 104729)) rfl (evS2 (a := .int (s1.turn + 1)) (b := .int 104729) rfl rfl (cmulR (by decide) (by decide))) rfl)) rfl ((modD_int (by decide)).trans (by rw [← ha]; rfl))))]
      rw [seqS (setS (j := 3) (d := .int (((a : Nat) * (a : Nat) + (s1.turn + 1) * 17 : Int).fmod 2147483647)) (evS2 (a := .int ((a : Nat) * (a : Nat) + (s1.turn + 1) * 17 : Int)) (b := .int 2147483647) (evS1 (evS2 (a := .int ((a : Nat) * (a : Nat) : Int)) (b := .int ((s1.turn + 1) * 17)) (evS2 (a := .int (a : Nat)) (b := .int (a : Nat)) rfl rfl (cmulR (by omega) (by omega))) (evS2 (a := .int (s1.turn + 1)) (b := .int 17) rfl rfl (cmulR (by decide) (by decide))) rfl)) rfl (modD_int (by decide))))]
      rw [seqS (putS (k := .mixed) (i := (((a : Nat) * (a : Nat) + (s1.turn + 1) * 17 : Int).fmod 2147483647)) rfl rfl)]
      obtain ⟨k, hk, hkl⟩ := fmod_below ((((a : Nat) * (a : Nat) + (s1.turn + 1) * 17 : Int).fmod 2147483647).fdiv 16) (k := m) (by omega)
      refine ⟨.int (k : Nat), _, retS ((evS2 (a := .int ((((a : Nat) * (a : Nat) + (s1.turn + 1) * 17 : Int).fmod 2147483647).fdiv 16)) (b := .int (m : Nat)) (evS1 (evS2 (a := .int (((a : Nat) * (a : Nat) + (s1.turn + 1) * 17 : Int).fmod 2147483647)) (b := .int 16) rfl rfl (fdivD_int (by decide) (by decide)))) rfl (modD_int (by omega))).trans (by rw [hk])), ?_, k, rfl, by omega⟩
      unfold Inv
      rw [put_cells, put_cells]; exact i1
  obtain ⟨d, s', e, i', hk⟩ := fin
  refine ⟨d, s', ?_, i', hk⟩
  show toRetM (b__law_pick [.src, .val (.int (m : Nat)), .nil, .nil] s) = _
  rw [e]; rfl
theorem ok_src {δ : List Slot} {n : Nat} {foo : List D → M D} {fr : Fx (List D)} {ds : List D} {Q : D → Prop} (h0 : δ[0]? = some .src) (hf : fr δ = mp ds) (hn : ds.length = n) (h : Ok (foo ds) Q) : Ok (fSrc 0 n foo fr δ) Q := by
  unfold fSrc
  rw [h0]
  dsimp only
  rw [hf, mb_mp, if_pos hn]
  exact h
theorem ok_pick {δ : List Slot} {f : Fx D} {m : Nat} (h0 : δ[0]? = some .src) (hf : f δ = mp (.int (m : Nat))) (hm : m < 1000000) : Ok (fSrc 0 1 sem__law_pick (fCons f fNil) δ) (fun d => ∃ k : Nat, d = .int (k : Nat) ∧ k < max 1 m) :=
  ok_src h0 (evCons hf evNil) rfl (sp_pick hm)
theorem ok_2 {h : D → D → Option D} {f g : Fx D} {δ : List Slot} {P1 P2 Q : D → Prop} (hf : Ok (f δ) P1) (hg : Ok (g δ) P2) (k : ∀ a b, P1 a → P2 b → ∃ d, h a b = some d ∧ Q d) : Ok (f2 h f g δ) Q := by
  unfold f2
  refine hf.mb fun a pa => hg.mb fun b pb => ?_
  obtain ⟨d, e, q⟩ := k a b pa pb
  rw [e]
  exact Ok.mp q
/-- one of a list's things -/
theorem sp__law_of {xs : List D} (h1 : xs ≠ []) (h2 : xs.length < 1000000) : Ok (sem__law_of [.list xs]) (fun d => d ∈ xs) := fun s i => by
  have hp : 0 < xs.length := List.length_pos_iff.mpr h1
  have hx : Ok (f2 itemD (gw 1) (fSrc 0 1 sem__law_pick (fCons (fc lenD (fCons (gw 1) fNil)) fNil)) [.src, .val (.list xs)]) (fun d => d ∈ xs) :=
    ok_2 (P1 := fun d => d = .list xs) (P2 := fun d => ∃ k : Nat, d = .int (k : Nat) ∧ k < max 1 xs.length) (Ok.of rfl rfl) (ok_pick (m := xs.length) rfl (evc (evCons rfl evNil) rfl) h2) fun a b ea eb => by
      subst ea
      obtain ⟨k, rfl, hk⟩ := eb
      have hk' : k < xs.length := by omega
      exact ⟨xs[k], itemL_nat (List.getElem?_eq_getElem hk'), List.getElem_mem hk'⟩
  obtain ⟨d, s', e, i', q⟩ := hx s i
  refine ⟨d, s', ?_, i', q⟩
  show toRetM (b__law_of [.src, .val (.list xs)] s) = _
  unfold b__law_of sRet mb
  rw [e]; rfl
theorem ok_lcGo {α : Type} {gt : D → List Slot → Option (List Slot)} {e : Fx D} {δ : List Slot} {enc : α → D} {P : D → Prop} : ∀ (xs : List α), (∀ x ∈ xs, ∃ δ1, gt (enc x) δ = some δ1 ∧ Ok (e δ1) P) → Ok (lcGo gt (fun _ => mp true) e δ (xs.map enc)) (fun ds => ds.length = xs.length ∧ ∀ d ∈ ds, P d)
  | [], _ => Ok.mp ⟨rfl, fun d h => by cases h⟩
  | x :: xs, h => by
    obtain ⟨δ1, h1, h2⟩ := h x (.head _)
    have ih := ok_lcGo (gt := gt) (e := e) (δ := δ) (enc := enc) (P := P) xs fun y hy => h y (.tail _ hy)
    rw [List.map_cons]
    unfold lcGo
    rw [h1, ml_mp, mb_mp, mb_mp, if_pos rfl]
    refine h2.mb fun d pd => ih.mb fun ds hds => Ok.mp ⟨by rw [List.length_cons, List.length_cons, hds.1], fun y hy => ?_⟩
    rcases List.mem_cons.mp hy with hy | hy
    · subst hy; exact pd
    · exact hds.2 y hy
theorem ok_lc {α : Type} {fi : Fx (List D)} {gt : D → List Slot → Option (List Slot)} {e : Fx D} {vs : List Nat} {δ : List Slot} {enc : α → D} {zs : List α} {P : D → Prop} (hi : fi δ = mp (zs.map enc)) (no : noOwn δ vs = true) (h : ∀ x ∈ zs, ∃ δ1, gt (enc x) (wipeS δ vs) = some δ1 ∧ Ok (e δ1) P) : Ok (lcF fi gt (fun _ => mp true) e vs δ) (fun d => ∃ ds, d = .list ds ∧ ds.length = zs.length ∧ ∀ d ∈ ds, P d) := by
  unfold lcF
  rw [hi, mb_mp, if_pos no]
  exact (ok_lcGo zs h).mb fun ds hds => Ok.mp ⟨ds, rfl, hds⟩
theorem ints_of : ∀ {ds : List D}, (∀ d ∈ ds, ∃ i : Int, d = .int i) → ∃ is : List Int, ds = is.map PyData.int
  | [], _ => ⟨[], rfl⟩
  | d :: r, h => by
    obtain ⟨i, rfl⟩ := h d (.head _)
    obtain ⟨is, rfl⟩ := ints_of fun d hd => h d (.tail _ hd)
    exact ⟨i :: is, rfl⟩
theorem ok_run {n : Nat} {body : Fx Flow} {ds : List D} {f : Fx D} {Q : D → Prop} (hb : body = sRet f) (h : Ok (f (.src :: ds.map Slot.val ++ List.replicate (n - (ds.length + 1)) .nil)) Q) : Ok (runS n body ds) Q := fun s i => by
  obtain ⟨d, s', e, i', q⟩ := h s i
  refine ⟨d, s', ?_, i', q⟩
  subst hb
  unfold runS sRet mb
  rw [e]; rfl
theorem seq_eq {p q : Fx Flow} {δ δ' : List Slot} (h : p δ = mp (.nx δ')) : fSeq p q δ = q δ' := by
  unfold fSeq; rw [h, mb_mp]; rfl
theorem ok_seqN {p q : Fx Flow} {δ δ' : List Slot} {Q : Flow → Prop} (h : p δ = mp (.nx δ')) (k : Ok (q δ') Q) : Ok (fSeq p q δ) Q := by
  rw [seq_eq h]; exact k
theorem ok_seqX {p q : Fx Flow} {δ : List Slot} {P : List Slot → Prop} {Q : Flow → Prop} (h : Ok (p δ) (fun fl => ∃ δ', fl = .nx δ' ∧ P δ')) (k : ∀ δ', P δ' → Ok (q δ') Q) : Ok (fSeq p q δ) Q :=
  h.mb fun fl ⟨δ', e, p⟩ => by subst e; exact k δ' p
theorem ok_seqSet {i : Nat} {f : Fx D} {q : Fx Flow} {δ : List Slot} {P : D → Prop} {Q : Flow → Prop} (h : Ok (f δ) P) (k : ∀ d, P d → Ok (q (δ.set i (.val d))) Q) : Ok (fSeq (sSet i f) q δ) Q :=
  ok_seqX (P := fun δ' => ∃ d, δ' = δ.set i (.val d) ∧ P d) (h.mb fun d pd => Ok.mp ⟨_, rfl, d, rfl, pd⟩) fun δ' ⟨d, e, pd⟩ => by subst e; exact k d pd
theorem ok_seqPar {i j : Nat} {k1 k2 : Knd} {f g : Fx D} {q : Fx Flow} {δ : List Slot} {P1 P2 : D → Prop} {Q : Flow → Prop} (h1 : Ok (f δ) P1) (h2 : Ok (g δ) P2)
    (k : ∀ a b, P1 a → P2 b → Ok (q ((δ.set i (slotK k1 a)).set j (slotK k2 b))) Q) : Ok (fSeq (sPar i j k1 k2 f g) q δ) Q :=
  ok_seqX (P := fun δ' => ∃ a b, δ' = (δ.set i (slotK k1 a)).set j (slotK k2 b) ∧ P1 a ∧ P2 b) (h1.mb fun a pa => h2.mb fun b pb => Ok.mp ⟨_, rfl, a, b, rfl, pa, pb⟩) fun δ' ⟨a, b, e, pa, pb⟩ => by subst e; exact k a b pa pb
theorem ok_ret {f : Fx D} {δ : List Slot} {Q : D → Prop} (h : Ok (f δ) Q) : Ok (sRet f δ) (fun fl => ∃ d, fl = .rt d ∧ Q d) := h.mb fun d pd => Ok.mp ⟨d, rfl, pd⟩
theorem ok_runF {n : Nat} {body : Fx Flow} {ds : List D} {Q : D → Prop} (h : Ok (body (.src :: ds.map Slot.val ++ List.replicate (n - (ds.length + 1)) .nil)) (fun fl => ∃ d, fl = .rt d ∧ Q d)) : Ok (runS n body ds) Q := fun s i => by
  obtain ⟨fl, s', e, i', d, rfl, q⟩ := h s i
  refine ⟨d, s', ?_, i', q⟩
  unfold runS
  rw [e]; rfl
theorem ok_nil {δ : List Slot} {Q : List D → Prop} (h : Q []) : Ok (fNil δ) Q := Ok.mp h
theorem ok_cons {f : Fx D} {fr : Fx (List D)} {δ : List Slot} {P : D → Prop} {R Q : List D → Prop} (h : Ok (f δ) P) (hr : Ok (fr δ) R) (k : ∀ a xs, P a → R xs → Q (a :: xs)) : Ok (fCons f fr δ) Q :=
  h.mb fun a pa => hr.mb fun xs r => Ok.mp (k a xs pa r)
/-- one argument -/
theorem ok_one {f : Fx D} {δ : List Slot} {P : D → Prop} (h : Ok (f δ) P) : Ok (fCons f fNil δ) (fun xs => ∃ a, xs = [a] ∧ P a) := ok_cons h (ok_nil (Q := fun xs => xs = []) rfl) fun a xs pa e => ⟨a, by rw [e], pa⟩
theorem ok_two {f g : Fx D} {δ : List Slot} {P1 P2 : D → Prop} (h : Ok (f δ) P1) (h2 : Ok (g δ) P2) : Ok (fCons f (fCons g fNil) δ) (fun xs => ∃ a b, xs = [a, b] ∧ P1 a ∧ P2 b) := ok_cons h (ok_one h2) fun a xs pa ⟨b, e, pb⟩ => ⟨a, b, by rw [e], pa, pb⟩
theorem ok_fc {h : List D → Option D} {fr : Fx (List D)} {δ : List Slot} {P : List D → Prop} {Q : D → Prop} (hr : Ok (fr δ) P) (k : ∀ xs, P xs → ∃ d, h xs = some d ∧ Q d) : Ok (fc h fr δ) Q :=
  hr.mb fun xs p => by
    obtain ⟨d, e, q⟩ := k xs p
    rw [e]; exact Ok.mp q
theorem ok_f1 {h : D → Option D} {f : Fx D} {δ : List Slot} {P Q : D → Prop} (hr : Ok (f δ) P) (k : ∀ x, P x → ∃ d, h x = some d ∧ Q d) : Ok (f1 h f δ) Q :=
  hr.mb fun xs p => by
    obtain ⟨d, e, q⟩ := k xs p
    rw [e]; exact Ok.mp q
theorem ok_call {n : Nat} {foo : List D → Option D} {fr : Fx (List D)} {δ : List Slot} {P : List D → Prop} {Q : D → Prop} (hr : Ok (fr δ) P) (k : ∀ xs, P xs → xs.length = n ∧ ∃ d, foo xs = some d ∧ Q d) : Ok (fCall n foo fr δ) Q :=
  hr.mb fun xs p => by
    obtain ⟨hn, d, e, q⟩ := k xs p
    rw [if_pos hn, e]; exact Ok.mp q
theorem ok_srcI {i : Nat} {δ : List Slot} {n : Nat} {foo : List D → M D} {fr : Fx (List D)} {P : List D → Prop} {Q : D → Prop} (h0 : δ[i]? = some .src) (hf : Ok (fr δ) P) (h : ∀ ds, P ds → ds.length = n ∧ Ok (foo ds) Q) : Ok (fSrc i n foo fr δ) Q := by
  unfold fSrc
  rw [h0]
  dsimp only
  refine hf.mb fun ds p => ?_
  rw [if_pos (h ds p).1]
  exact (h ds p).2
theorem ok_pickI {i : Nat} {δ : List Slot} {f : Fx D} {m : Nat} (h0 : δ[i]? = some .src) (hf : f δ = mp (.int (m : Nat))) (hm : m < 1000000) : Ok (fSrc i 1 sem__law_pick (fCons f fNil) δ) (fun d => ∃ k : Nat, d = .int (k : Nat) ∧ k < max 1 m) :=
  ok_srcI (P := fun ds => ds = [.int (m : Nat)]) h0 (Ok.of (evCons hf evNil) rfl) fun ds e => by subst e; exact ⟨rfl, sp_pick hm⟩
theorem ok_ofI {i : Nat} {δ : List Slot} {f : Fx D} {P : List D → Prop} {Q : D → Prop} (h0 : δ[i]? = some .src) (hf : Ok (f δ) (fun d => ∃ xs, d = .list xs ∧ P xs)) (h : ∀ xs, P xs → xs ≠ [] ∧ xs.length < 1000000 ∧ ∀ d ∈ xs, Q d) : Ok (fSrc i 1 sem__law_of (fCons f fNil) δ) Q :=
  ok_srcI h0 (ok_one hf) fun ds ⟨a, e, xs, e2, p⟩ => by
    subst e e2
    obtain ⟨h1, h2, h3⟩ := h xs p
    exact ⟨rfl, (sp__law_of h1 h2).wk fun d hd => h3 d hd⟩
theorem ok_for {α : Type} {g : D → List Slot → Option (List Slot)} {b : Fx Flow} {enc : α → D} {R : Nat → List Slot → Prop} : ∀ (xs : List α) (i : Nat) (δ : List Slot),
    (∀ j x δ, xs[j]? = some x → R (i + j) δ → ∃ δ1, g (enc x) δ = some δ1 ∧ Ok (b δ1) (fun fl => ∃ δ', fl = .nx δ' ∧ R (i + j + 1) δ')) → R i δ →
    Ok (forF g b (xs.map enc) δ) (fun fl => ∃ δ', fl = .nx δ' ∧ R (i + xs.length) δ')
  | [], i, δ, _, r => Ok.mp ⟨δ, rfl, r⟩
  | x :: xs, i, δ, h, r => by
    obtain ⟨δ1, h1, h2⟩ := h 0 x δ rfl r
    rw [List.map_cons]
    unfold forF
    rw [h1, ml_mp, mb_mp]
    refine h2.mb fun fl ⟨δ', e, r'⟩ => ?_
    subst e
    refine (ok_for xs (i + 1) δ' (fun j y δ hy ry => ?_) r').wk fun fl ⟨δ'', e, q⟩ => ⟨δ'', e, by rw [List.length_cons, show i + (xs.length + 1) = i + 1 + xs.length by omega]; exact q⟩
    rw [show i + 1 + j = i + (j + 1) by omega] at ry ⊢
    exact h (j + 1) y δ (by simpa using hy) ry
theorem ok_sFor {α : Type} {fi : Fx (List D)} {g : D → List Slot → Option (List Slot)} {b : Fx Flow} {enc : α → D} {R : Nat → List Slot → Prop} {δ : List Slot} {W : List α → Prop} (hi : Ok (fi δ) (fun ds => ∃ xs : List α, ds = xs.map enc ∧ W xs))
    (h : ∀ xs, W xs → ∀ j x δ, xs[j]? = some x → R j δ → ∃ δ1, g (enc x) δ = some δ1 ∧ Ok (b δ1) (fun fl => ∃ δ', fl = .nx δ' ∧ R (j + 1) δ')) (h0 : R 0 δ) :
    Ok (sFor fi g b δ) (fun fl => ∃ δ', fl = .nx δ' ∧ ∃ xs, W xs ∧ R xs.length δ') :=
  hi.mb fun ds ⟨xs, e, w⟩ => by
    subst e
    refine (ok_for (R := R) xs 0 δ (fun j x δ hx r => ?_) h0).wk fun fl ⟨δ', e, r⟩ => ⟨δ', e, xs, w, by rw [Nat.zero_add] at r; exact r⟩
    rw [Nat.zero_add] at r ⊢
    exact h xs w j x δ hx r
theorem ok_lcM {α : Type} {fi : Fx (List D)} {gt : D → List Slot → Option (List Slot)} {e : Fx D} {vs : List Nat} {δ : List Slot} {enc : α → D} {W : List α → Prop} {P : D → Prop} (hi : Ok (fi δ) (fun ds => ∃ zs : List α, ds = zs.map enc ∧ W zs)) (no : noOwn δ vs = true)
    (h : ∀ zs, W zs → ∀ x ∈ zs, ∃ δ1, gt (enc x) (wipeS δ vs) = some δ1 ∧ Ok (e δ1) P) : Ok (lcF fi gt (fun _ => mp true) e vs δ) (fun d => ∃ ds zs, d = .list ds ∧ W zs ∧ ds.length = zs.length ∧ ∀ d ∈ ds, P d) := by
  unfold lcF
  refine hi.mb fun ds ⟨zs, ez, w⟩ => ?_
  subst ez
  rw [if_pos no]
  exact (ok_lcGo zs (h zs w)).mb fun ds hds => Ok.mp ⟨ds, zs, rfl, w, hds⟩
theorem ok_app {i : Nat} {f : Fx D} {δ : List Slot} {P : D → Prop} {ds : List D} (h : Ok (f δ) P) (hi : δ[i]? = some (.own (.list ds))) (hl : ds.length < sizeLine) : Ok (sApp i f δ) (fun fl => ∃ δ', fl = .nx δ' ∧ ∃ d, P d ∧ δ' = δ.set i (.own (.list (ds ++ [d])))) :=
  h.mb fun d pd => Ok.of (a := .nx (δ.set i (.own (.list (ds ++ [d]))))) (by
    unfold appD
    rw [hi]
    dsimp only
    rw [if_pos hl]; rfl) ⟨_, rfl, d, pd, rfl⟩
theorem ok_if {α : Type} {t : Fx Bool} {f g : Fx α} {δ : List Slot} {P : Bool → Prop} {Q : α → Prop} (ht : Ok (t δ) P) (h1 : P true → Ok (f δ) Q) (h2 : P false → Ok (g δ) Q) : Ok (fIf t f g δ) Q :=
  ht.mb fun c p => by
    cases c with
    | true => rw [if_pos rfl]; exact h1 p
    | false => rw [if_neg (by decide)]; exact h2 p
theorem ok_B {f : Fx D} {δ : List Slot} {P : Bool → Prop} (h : Ok (f δ) (fun d => ∃ b, d = .bool b ∧ P b)) : Ok (fB f δ) P := h.mb fun d ⟨b, e, p⟩ => by subst e; exact Ok.mp p
theorem erase_perm {α : Type} : ∀ (l : List α) (k : Nat) (hk : k < l.length), (l[k] :: l.eraseIdx k).Perm l
  | a :: r, 0, _ => .refl _
  | a :: r, k + 1, hk => by
    have h : k < r.length := by simpa using hk
    show (r[k] :: a :: r.eraseIdx k).Perm (a :: r)
    exact (List.Perm.swap a r[k] _).trans ((erase_perm r k h).cons a)
theorem popD_at {x : D} {y z : Slot} {rest : List D} {k : Nat} (hk : k < rest.length) (hl : rest.length < 1000000) : popD 2 (.int (k : Nat)) [.src, z, .own (.list rest), y] = some (rest[k], [.src, z, .own (.list (rest.eraseIdx k)), y]) := by
  have h : (0 : Int) ≤ ((k : Nat) : Int) ∧ ((k : Nat) : Int) < 2 ^ 63 := ⟨by omega, by omega⟩
  unfold popD
  simp only [List.getElem?_cons_succ, List.getElem?_cons_zero]
  rw [if_pos h, Int.toNat_natCast, List.getElem?_eq_getElem hk]
  rfl
theorem mixed_go (x : D) : ∀ (ds rest : List D), ds.length = rest.length → rest.length < 1000000 → Ok (lcGoX (gSet 3) (fun _ => mp true) (fPop 2 (fSrc 0 1 sem__law_pick (fCons (fc lenD (fCons (gw 2) fNil)) fNil))) [3] [.src, .val x, .own (.list rest), .nil] ds) (fun rs => rs.Perm rest)
  | [], rest, h, _ => by
    have : rest = [] := List.length_eq_zero_iff.mp h.symm
    subst this
    exact Ok.mp (.refl _)
  | d :: ds, rest, h, hl => by
    rw [List.length_cons] at h
    unfold lcGoX
    rw [show gSet 3 d [.src, .val x, .own (.list rest), .nil] = some [.src, .val x, .own (.list rest), .val d] from rfl, ml_mp, mb_mp, mb_mp, if_pos rfl]
    refine Ok.mb (P := fun r => ∃ (k : Nat) (hk : k < rest.length), r = (rest[k], [.src, .val x, .own (.list (rest.eraseIdx k)), .val d])) ?_ fun r hr => ?_
    · unfold fPop
      refine (ok_pick (m := rest.length) rfl (evc (evCons rfl evNil) rfl) hl).mb fun kd hk => ?_
      obtain ⟨k, rfl, hk⟩ := hk
      have hk' : k < rest.length := by omega
      refine Ok.of (a := (rest[k], [.src, .val x, .own (.list (rest.eraseIdx k)), .val d])) ?_ ⟨k, hk', rfl⟩
      rw [popD_at (x := x) hk' hl]; rfl
    · obtain ⟨k, hk, rfl⟩ := hr
      have hle := List.length_eraseIdx_of_lt hk
      refine (mixed_go x ds (rest.eraseIdx k) (by omega) (by omega)).mb fun rs hrs => Ok.mp ?_
      exact (List.Perm.cons _ hrs).trans (erase_perm rest k hk)
theorem sp__law_mixed {xs : List D} (h2 : xs.length ≤ 65536) : Ok (sem__law_mixed [.list xs]) (fun d => ∃ ys, d = .list ys ∧ ys.Perm xs) := by
  refine ok_runF ?_
  refine ok_seqN (δ' := [.src, .val (.list xs), .own (.list xs), .nil]) (evOwn (d := .list xs) (evc (evCons rfl evNil) rfl)) ?_
  unfold lcX
  rw [show fR1 (fCons (fc lenD (fCons (gw 2) fNil)) fNil) [Slot.src, .val (.list xs), .own (.list xs), .nil] = mp (rngD 0 xs.length) from evR1 (evCons (evc (evCons rfl evNil) rfl) evNil) (small16 h2), mb_mp]
  refine (mixed_go (.list xs) (rngD 0 xs.length) xs (by unfold rngD; rw [List.length_map, List.length_range]) (by omega)).mb fun rs hrs => Ok.mp ⟨.list rs, rfl, rs, rfl, hrs⟩
end VL

/-! Y2: the small defs on typed data. -/
namespace VL
open PySem PySem.Spec PyProof.Rows L2
structure Frm (n : Nat) (ps : List (Nat × Nat)) (ms : List Int) : Prop where
  n1 : 1 ≤ n
  n6 : n ≤ 6
  m9 : ps.length ≤ 9
  lt : ∀ p ∈ ps, p.1 < n ∧ p.2 < n
  len : ms.length = ps.length
  mark : ∀ x ∈ ms, x = 0 ∨ x = 1 ∨ x = -1
theorem sp_is_one_way_cut {n : Nat} {ps : List (Nat × Nat)} {ms : List Int} {l : List Nat} (F : Frm n ps ms) : sem_is_one_way_cut [fD n ps, mD ms, nD l] = some (.bool (wayCut ps ms l)) := by
  have h9 := F.m9
  have hr := rowOf_len ps l
  refine evRun (evSeq (evSet (evCall (evCons rfl (evCons rfl evNil)) rfl (sp_row_of_lot (by omega)))) (evRet (ev2 (evLc (enc := fun p : Int × Nat => PyData.tuple [.int (p.2 : Nat), .int p.1]) (zs := (rowOf ps l).zipIdx) (fun p => !decide (p.1 = 0) && !decide (ms.getD p.2 0 = p.1)) (fun _ => PyData.int 1)
    ((evEn rfl (seq_t (by rw [List.length_map]; exact small16 (by omega)))).trans (by rw [enum_map])) rfl fun p hp => ⟨_, rfl, ?_, fun _ => rfl⟩) (evc evNil (lst_ok (Nat.zero_le _))) ((eq_nil _).trans ?_))))
  · have hp2 := (zip_lt hp).1
    exact evAnd (evB (ev2 rfl rfl (ne_int _ _))) fun _ => evB (ev2 (ev2 rfl rfl (m_at (by rw [F.len]; omega))) rfl (ne_int _ _))
  · rw [isEmpty_map]; rfl
section
variable {n : Nat} {ps : List (Nat × Nat)} {ms : List Int}
theorem getD_mem_or (ms : List Int) (r : Nat) (h : r < ms.length) : ms.getD r 0 ∈ ms := by
  rw [List.getD_eq_getElem?_getD, List.getElem?_eq_getElem h]; exact List.getElem_mem h
theorem Frm.mk3 (F : Frm n ps ms) {r : Nat} (h : r < ms.length) : ms.getD r 0 = 0 ∨ ms.getD r 0 = 1 ∨ ms.getD r 0 = -1 := F.mark _ (getD_mem_or ms r h)
theorem wayCut_iff (F : Frm n ps ms) (l : List Nat) : wayCut ps ms l = true ↔ ∀ r, r < ps.length → inI (ps.getD r (0, 0)).1 l - inI (ps.getD r (0, 0)).2 l = 0 ∨ ms.getD r 0 = inI (ps.getD r (0, 0)).1 l - inI (ps.getD r (0, 0)).2 l := by
  unfold wayCut
  rw [List.isEmpty_iff, List.filter_eq_nil_iff]
  have at_ : ∀ r, r < ps.length → (rowOf ps l)[r]? = some (inI (ps.getD r (0, 0)).1 l - inI (ps.getD r (0, 0)).2 l) := fun r h => by
    unfold rowOf
    rw [List.getElem?_map, List.getD_eq_getElem?_getD, List.getElem?_eq_getElem h]; rfl
  constructor
  · intro h r hr
    have := h (_, r) (List.mem_zipIdx_iff_getElem?.mpr (at_ r hr))
    simp only [Bool.and_eq_true, Bool.not_eq_true', decide_eq_false_iff_not, not_and, Decidable.not_not] at this
    by_cases h0 : inI (ps.getD r (0, 0)).1 l - inI (ps.getD r (0, 0)).2 l = 0
    · exact .inl h0
    · exact .inr (this h0)
  · intro h p hp
    obtain ⟨h1, h2⟩ := zip_lt hp
    rw [rowOf_len] at h1
    have h3 := at_ p.2 h1
    rw [h3] at h2
    have h4 := Option.some.inj h2
    simp only [Bool.and_eq_true, Bool.not_eq_true', decide_eq_false_iff_not, not_and, Decidable.not_not]
    intro hn
    rcases h p.2 h1 with z | z
    · exact absurd (h4 ▸ z) hn
    · rw [z, h4]
end

theorem evZpS {fr : Fx (List D)} {δ : List Slot} {xs ys : List D} (h : fr δ = mp [.tuple xs, .tuple ys]) (h1 : xs.length ≤ sizeLine) (h2 : xs.length = ys.length) : fZpS fr δ = mp (zipL xs ys) := by
  unfold fZpS
  rw [h, mb_mp]
  unfold zpSD
  dsimp only
  rw [if_pos ⟨h1, h2⟩]; rfl
theorem evZp {fr : Fx (List D)} {δ : List Slot} {xs ys : List D} (h : fr δ = mp [.tuple xs, .tuple ys]) (h1 : xs.length ≤ sizeLine) : fZp fr δ = mp (zipL xs ys) := by
  unfold fZp
  rw [h, mb_mp]
  unfold zpD
  dsimp only
  rw [if_pos h1]; rfl
def pairD {α β : Type} (f : α → D) (g : β → D) (p : α × β) : D := .tuple [f p.1, g p.2]
theorem zipL_map {α β : Type} (f : α → D) (g : β → D) : ∀ (xs : List α) (ys : List β), zipL (xs.map f) (ys.map g) = (xs.zip ys).map (pairD f g)
  | [], _ => rfl
  | _ :: _, [] => rfl
  | x :: xs, y :: ys => by
    show PyData.tuple [f x, g y] :: zipL (xs.map f) (ys.map g) = _
    rw [zipL_map f g xs ys]; rfl
theorem map_mD (ms : List Int) : (mD ms) = .tuple (ms.map PyData.int) := rfl
/-- a comprehension over two rows of ints -/
theorem ev_zip2 {δ : List Slot} {fr : Fx (List D)} {e : Fx D} {i j : Nat} {a b : List Int} (E : Int → Int → D) (hf : fr δ = mp [mD a, mD b]) (ha : a.length ≤ 65536) (hab : a.length = b.length) (no : noOwn δ [i, j] = true)
    (he : ∀ x y, e (((wipeS δ [i, j]).set i (.val (.int x))).set j (.val (.int y))) = mp (E x y)) :
    lcF (fZpS fr) (gTp 2 (gAC (gSet i) (gAC (gSet j) gAN))) (fun _ => mp true) e [i, j] δ = mp (.list (List.zipWith E a b)) := by
  have h := evLc0 (gt := gTp 2 (gAC (gSet i) (gAC (gSet j) gAN))) (e := e) (vs := [i, j]) (δ := δ) (enc := pairD PyData.int PyData.int) (zs := a.zip b) (fun p => E p.1 p.2) ((evZpS (δ := δ) hf (by rw [List.length_map]; exact small16 ha) (by rw [List.length_map, List.length_map]; exact hab)).trans (by rw [zipL_map])) no
    fun p _ => ⟨_, rfl, he p.1 p.2⟩
  rw [h]
  congr 2
  rw [List.zip_eq_zipWith, List.map_zipWith]
/-- a comprehension over a row of ints -/
theorem ev_lc1 {δ : List Slot} {f : Fx D} {e : Fx D} {i : Nat} {a : List Int} (E : Int → D) (hf : f δ = mp (mD a)) (ha : a.length ≤ 65536) (no : noOwn δ [i] = true)
    (he : ∀ x, x ∈ a → e ((wipeS δ [i]).set i (.val (.int x))) = mp (E x)) :
    lcF (fSq f) (gSet i) (fun _ => mp true) e [i] δ = mp (.list (a.map E)) :=
  evLc0 (gt := gSet i) (e := e) (vs := [i]) (δ := δ) (enc := PyData.int) (zs := a) E (evSq hf (seq_t (by rw [List.length_map]; exact small16 ha))) no fun x hx => ⟨_, rfl, he x hx⟩
theorem tup_l {ds : List D} (h : ds.length ≤ 65536) : tupleD [.list ds] = some (.tuple ds) := rfl
theorem tup_t {ds : List D} (h : ds.length ≤ 65536) : tupleD [.tuple ds] = some (.tuple ds) := rfl
def dotZ (a b : List Int) : Int := (List.zipWith (fun x y => x * y) a b).sum
theorem sum_l (ns : List Int) : sumD [.list (ns.map PyData.int)] = some (.int ns.sum) := by
  unfold sumD
  dsimp only
  rw [intsOf_map]; rfl
def sml (a : List Int) : Prop := ∀ x ∈ a, -1000 ≤ x ∧ x ≤ 1000
theorem zipW_int {α β : Type} (f : α → β → Int) (a : List α) (b : List β) : List.zipWith (fun x y => PyData.int (f x y)) a b = (List.zipWith f a b).map PyData.int := by rw [List.map_zipWith]
theorem mul_ok {i j : Int} (h1 : -(2 ^ 64) < j) (h2 : j < 2 ^ 64) : mulD (.int i) (.int j) = some (.int (i * j)) := if_pos (.inr ⟨h1, h2⟩)
theorem mem_zip_of {α β : Type} {a : List α} {b : List β} {p : α × β} (h : p ∈ a.zip b) : p.1 ∈ a ∧ p.2 ∈ b := List.of_mem_zip h
/-- .. where the second row's numbers are small -/
theorem ev_zip2' {δ : List Slot} {fr : Fx (List D)} {e : Fx D} {i j : Nat} {a b : List Int} (E : Int → Int → D) (hf : fr δ = mp [mD a, mD b]) (ha : a.length ≤ 65536) (hab : a.length = b.length) (no : noOwn δ [i, j] = true)
    (he : ∀ x y, x ∈ a → y ∈ b → e (((wipeS δ [i, j]).set i (.val (.int x))).set j (.val (.int y))) = mp (E x y)) :
    lcF (fZpS fr) (gTp 2 (gAC (gSet i) (gAC (gSet j) gAN))) (fun _ => mp true) e [i, j] δ = mp (.list (List.zipWith E a b)) := by
  have h := evLc0 (gt := gTp 2 (gAC (gSet i) (gAC (gSet j) gAN))) (e := e) (vs := [i, j]) (δ := δ) (enc := pairD PyData.int PyData.int) (zs := a.zip b) (fun p => E p.1 p.2) ((evZpS (δ := δ) hf (by rw [List.length_map]; exact small16 ha) (by rw [List.length_map, List.length_map]; exact hab)).trans (by rw [zipL_map])) no
    fun p hp => ⟨_, rfl, he p.1 p.2 (mem_zip_of hp).1 (mem_zip_of hp).2⟩
  rw [h]
  congr 2
  rw [List.zip_eq_zipWith, List.map_zipWith]
theorem sp_row_product {a b : List Int} (ha : a.length ≤ 65536) (hab : a.length = b.length) (hb : sml b) : sem_row_product [mD a, mD b] = some (.int (dotZ a b)) := by
  refine evRun (evRet (evc (evCons (ev_zip2' (fun x y => .int (x * y)) (evCons rfl (evCons rfl evNil)) ha hab rfl fun x y _ hy => ?_) evNil) ?_))
  · have := hb y hy
    exact ev2 rfl rfl (mul_ok (by omega) (by omega))
  · rw [zipW_int, sum_l]; rfl
def negZ (a : List Int) : List Int := a.map fun x => -x
theorem sp_turned_row {a : List Int} (ha : a.length ≤ 65536) : sem_turned_row [mD a] = some (mD (negZ a)) := by
  refine evRun (evRet (evc (evCons (ev_lc1 (fun x => .int (-x)) rfl ha rfl fun x _ => ev1 rfl rfl) evNil) ?_))
  rw [tup_l (by rw [List.length_map]; exact ha)]
  unfold mD negZ
  rw [List.map_map]; rfl
/-- the signs of a turning -/
def sgn (t : List Int) : List Int := t.map fun x => 1 - 2 * x
theorem sgn_ev {a : List Int} (ha : a.length ≤ 65536) : tupleD [.list (a.map fun x => PyData.int (1 - 2 * x))] = some (mD (sgn a)) := by
  rw [tup_l (by rw [List.length_map]; exact ha)]
  unfold mD sgn
  rw [List.map_map]; rfl
theorem sgn_at {δ : List Slot} {i : Nat} {x : Int} (h : gw i δ = mp (.int x)) : f2 subD (fun _ => mp (.int 1)) (f2 mulD (fun _ => mp (.int 2)) (gw i)) δ = mp (.int (1 - 2 * x)) := ev2 rfl (ev2 rfl h (mul_2 x)) rfl
theorem sp__law_signs_of {a : List Int} (ha : a.length ≤ 65536) : sem__law_signs_of [mD a] = some (mD (sgn a)) :=
  evRun (evRet (evc (evCons (ev_lc1 (fun x => .int (1 - 2 * x)) rfl ha rfl fun x _ => sgn_at rfl) evNil) (sgn_ev ha)))
/-- twice what is left of signs behind a row -/
def restZ (s k : List Int) : List Int := List.zipWith (fun x y => 2 * x - 4 * y) s k
theorem sp_rest_row {s k : List Int} (hs : s.length ≤ 65536) (hk : s.length = k.length) (hb : sml k) : sem_rest_row [.tuple [mD s, .int 2], mD k] = some (mD (restZ s k)) := by
  refine evRun (evSeq (δ' := [.val (.tuple [mD s, .int 2]), .val (mD k), .val (mD s), .val (.int 2), .nil, .nil]) rfl (evRet (evc (evCons (ev_zip2' (fun x y => .int (2 * x - 4 * y)) (evCons rfl (evCons rfl evNil)) hs hk rfl fun x y _ hy => ?_) evNil) ?_)))
  · have := hb y hy
    exact ev2 (ev2 rfl rfl (mul_2 x)) (ev2 (ev2 rfl rfl (mul_2 2)) rfl (mul_ok (by omega) (by omega))) rfl
  · have hl : (List.zipWith (fun x y : Int => PyData.int (2 * x - 4 * y)) s k).length ≤ 65536 := by rw [List.length_zipWith]; omega
    rw [tup_l hl]
    unfold mD restZ
    rw [zipW_int]
/-- the rising row of heights -/
def cutZ (ps : List (Nat × Nat)) (h : Nat → Int) : List Int := ps.map fun p => h p.2 - h p.1
theorem sp__law_rising {n : Nat} {ps : List (Nat × Nat)} {hs : List Int} (hl : ∀ p ∈ ps, p.1 < hs.length ∧ p.2 < hs.length) (h : ps.length ≤ 1000) : sem__law_rising [fD n ps, mD hs] = some (mD (cutZ ps fun c => hs.getD c 0)) := by
  refine evRun (evRet (evc (evCons (evLc0 (enc := pD) (zs := ps) (fun p => PyData.int (hs.getD p.2 0 - hs.getD p.1 0)) (evSq (ev2 rfl rfl (fD1 n ps)) (seq_t (by rw [List.length_map]; exact small16 (by omega)))) rfl fun p hp => ⟨_, rfl, ?_⟩) evNil) ?_))
  · have := hl p hp
    exact ev2 (ev2 rfl rfl (m_at this.2)) (ev2 rfl rfl (m_at this.1)) rfl
  · rw [tup_l (by rw [List.length_map]; omega)]
    unfold mD cutZ
    rw [List.map_map]; rfl

end VL

/-! Y3: all lots with crossing 0; all turnings. -/
namespace VL
open PySem PySem.Spec PyProof.Rows L2
def subs0 : Nat → List (List Nat)
  | 0 => [[0]]
  | k + 1 => subs0 k ++ (subs0 k).map fun l => l ++ [k + 1]
def lots (n : Nat) : List (List Nat) := (subs0 (n - 1)).filter fun l => decide (l.length < n)
theorem sp_all_crossing_lots {n : Nat} (h1 : 1 ≤ n) (h5 : n ≤ 5) : sem_all_crossing_lots [.int (n : Nat)] = some (.list ((lots n).map nD)) := by
  match n, h1, h5 with
  | 1, _, _ => kernel_rfl
  | 2, _, _ => kernel_rfl
  | 3, _, _ => kernel_rfl
  | 4, _, _ => kernel_rfl
  | 5, _, _ => kernel_rfl
def turns : Nat → List (List Int)
  | 0 => [[]]
  | k + 1 => (turns k).flatMap fun t => [t ++ [0], t ++ [1]]
theorem sp__law_all_turnings {m : Nat} (h : m ≤ 7) : sem__law_all_turnings [.int (m : Nat)] = some (.list ((turns m).map mD)) := by
  match m, h with
  | 0, _ => kernel_rfl
  | 1, _ => kernel_rfl
  | 2, _ => kernel_rfl
  | 3, _ => kernel_rfl
  | 4, _ => kernel_rfl
  | 5, _ => kernel_rfl
  | 6, _ => kernel_rfl
  | 7, _ => kernel_rfl
end VL

/-! Y4: a search from one thing on: what is found. No program in sight. -/
namespace VL
section
variable {α : Type} [DecidableEq α]
def addNew (s : List α × List α) (y : α) : List α × List α := if y ∈ s.1 then s else (s.1 ++ [y], s.2 ++ [y])
def bfsStep (next : α → List α) (s : List α × List α) : List α × List α := match s.2.getLast? with
  | none => s
  | some h => (next h).foldl addNew (s.1, s.2.dropLast)
def bfsCond (s : List α × List α) : Bool := !s.2.isEmpty
theorem nd1 (a : α) : [a].Nodup := by simp
inductive Reach (next : α → List α) (a : α) : α → Prop
  | refl : Reach next a a
  | step {x y : α} : Reach next a x → y ∈ next x → Reach next a y
/-- what holds all along -/
structure Bi (next : α → List α) (U : List α) (a : α) (s : List α × List α) : Prop where
  nd : s.1.Nodup
  inU : ∀ x ∈ s.1, x ∈ U
  nl : s.2.Nodup
  sub : ∀ x ∈ s.2, x ∈ s.1
  at0 : a ∈ s.1
  rch : ∀ x ∈ s.1, Reach next a x
theorem nodup_len : ∀ {l U : List α}, l.Nodup → (∀ x ∈ l, x ∈ U) → l.length ≤ U.length
  | [], U, _, _ => Nat.zero_le _
  | a :: r, U, h, hs => by
    rw [List.nodup_cons] at h
    have h1 : ∀ x ∈ r, x ∈ U.erase a := fun x hx => by
      have : x ≠ a := fun z => h.1 (z ▸ hx)
      exact (List.mem_erase_of_ne this).mpr (hs x (.tail _ hx))
    have h2 := nodup_len h.2 h1
    have h3 := List.length_erase_of_mem (hs a (.head _))
    have h4 := List.length_pos_of_mem (hs a (.head _))
    rw [List.length_cons]
    omega
theorem addNew_mono {s : List α × List α} {y x : α} (h : x ∈ s.1) : x ∈ (addNew s y).1 := by
  unfold addNew
  split
  · exact h
  · exact List.mem_append_left _ h
theorem addNew_mem {s : List α × List α} {y : α} : y ∈ (addNew s y).1 := by
  unfold addNew
  split
  · assumption
  · exact List.mem_append_right _ (.head _)
theorem Bi.add {next : α → List α} {U : List α} {a : α} {s : List α × List α} (b : Bi next U a s) {y : α} (hy : y ∈ U) (hr : Reach next a y) : Bi next U a (addNew s y) := by
  unfold addNew
  split
  · exact b
  · next hn =>
    refine ⟨?_, ?_, ?_, ?_, List.mem_append_left _ b.at0, ?_⟩
    · exact List.nodup_append.mpr ⟨b.nd, nd1 _, fun u hu v hv => by
        rw [List.mem_singleton] at hv
        intro z; subst z; subst hv; exact hn hu⟩
    · intro x hx
      rcases List.mem_append.mp hx with h | h
      · exact b.inU x h
      · rw [List.mem_singleton] at h; subst h; exact hy
    · exact List.nodup_append.mpr ⟨b.nl, nd1 _, fun u hu v hv => by
        rw [List.mem_singleton] at hv
        intro z; subst z; subst hv; exact hn (b.sub _ hu)⟩
    · intro x hx
      rcases List.mem_append.mp hx with h | h
      · exact List.mem_append_left _ (b.sub x h)
      · exact List.mem_append_right _ h
    · intro x hx
      rcases List.mem_append.mp hx with h | h
      · exact b.rch x h
      · rw [List.mem_singleton] at h; subst h; exact hr
theorem Bi.fold {next : α → List α} {U : List α} {a : α} : ∀ {ys : List α} {s : List α × List α}, Bi next U a s → (∀ y ∈ ys, y ∈ U ∧ Reach next a y) → Bi next U a (ys.foldl addNew s)
  | [], _, b, _ => b
  | y :: ys, s, b, h => Bi.fold (ys := ys) (s := addNew s y) (b.add (h y (.head _)).1 (h y (.head _)).2) fun z hz => h z (.tail _ hz)
theorem fold_mono {x : α} : ∀ {ys : List α} {s : List α × List α}, x ∈ s.1 → x ∈ (ys.foldl addNew s).1
  | [], _, h => h
  | y :: ys, s, h => fold_mono (ys := ys) (addNew_mono h)
theorem fold_mem {y : α} : ∀ {ys : List α} {s : List α × List α}, y ∈ ys → y ∈ (ys.foldl addNew s).1
  | z :: ys, s, h => by
    rcases List.mem_cons.mp h with rfl | h
    · exact fold_mono (ys := ys) addNew_mem
    · exact fold_mem (ys := ys) h
/-- how many have been walked does not fall, nothing walked comes again -/
theorem fold_diff : ∀ {ys : List α} {s : List α × List α}, (ys.foldl addNew s).1.length + s.2.length = s.1.length + (ys.foldl addNew s).2.length
  | [], s => Nat.add_comm _ _ ▸ by simp [Nat.add_comm]
  | y :: ys, s => by
    rw [List.foldl_cons]
    have h := fold_diff (ys := ys) (s := addNew s y)
    have h2 : (addNew s y).1.length + s.2.length = s.1.length + (addNew s y).2.length := by
      unfold addNew
      split
      · exact Nat.add_comm _ _ ▸ by simp [Nat.add_comm]
      · simp only [List.length_append, List.length_singleton]; omega
    omega
theorem fold_old {x : α} : ∀ {ys : List α} {s : List α × List α}, x ∈ s.1 → x ∉ s.2 → x ∉ (ys.foldl addNew s).2
  | [], _, _, h => h
  | y :: ys, s, h1, h2 => by
    rw [List.foldl_cons]
    refine fold_old (ys := ys) (addNew_mono h1) ?_
    unfold addNew
    split
    · exact h2
    · next hn =>
      intro z
      rcases List.mem_append.mp z with z | z
      · exact h2 z
      · rw [List.mem_singleton] at z; subst z; exact hn h1
theorem fold_line {x : α} : ∀ {ys : List α} {t : List α × List α}, x ∈ t.2 → x ∈ (ys.foldl addNew t).2
  | [], _, h => h
  | w :: ws, t, h => by
    rw [List.foldl_cons]
    refine fold_line (ys := ws) ?_
    unfold addNew
    split
    · exact h
    · exact List.mem_append_left _ h
theorem fold_new {o : List α} : ∀ {ys : List α} {t : List α × List α}, (∀ z ∈ t.1, z ∈ o ∨ z ∈ t.2) → ∀ z ∈ (ys.foldl addNew t).1, z ∈ o ∨ z ∈ (ys.foldl addNew t).2
  | [], _, h => h
  | w :: ws, t, h => by
    rw [List.foldl_cons]
    refine fold_new (ys := ws) fun z hz => ?_
    unfold addNew at hz ⊢
    split at hz
    · next hw => rw [if_pos hw]; exact h z hz
    · next hw =>
      rw [if_neg hw]
      rcases List.mem_append.mp hz with q | q
      · rcases h z q with q | q
        · exact .inl q
        · exact .inr (List.mem_append_left _ q)
      · exact .inr (List.mem_append_right _ q)
theorem getLast_split {l : List α} {h : α} (e : l.getLast? = some h) : l = l.dropLast ++ [h] := by
  have hne : l ≠ [] := fun z => by subst z; cases e
  rw [List.getLast?_eq_some_getLast hne] at e
  rw [← Option.some.inj e]
  exact (List.dropLast_concat_getLast hne).symm
/-- the walked ones lead to found ones only -/
def Clo (next : α → List α) (s : List α × List α) : Prop := ∀ x ∈ s.1, x ∉ s.2 → ∀ y ∈ next x, y ∈ s.1
theorem step_all {next : α → List α} {U : List α} (hU : ∀ x ∈ U, ∀ y ∈ next x, y ∈ U) {a : α} {s : List α × List α} (b : Bi next U a s) (c : Clo next s) (hc : bfsCond s = true) :
    Bi next U a (bfsStep next s) ∧ Clo next (bfsStep next s) ∧ (bfsStep next s).1.length + s.2.length = s.1.length + (bfsStep next s).2.length + 1 := by
  have hne : s.2 ≠ [] := fun z => by unfold bfsCond at hc; rw [z] at hc; cases hc
  obtain ⟨h, hl⟩ : ∃ h, s.2.getLast? = some h := ⟨_, List.getLast?_eq_some_getLast hne⟩
  have sp := getLast_split hl
  have hs : h ∈ s.1 := b.sub h (by rw [sp]; exact List.mem_append_right _ (.head _))
  have nl := b.nl
  rw [sp] at nl
  have nl' := List.nodup_append.mp nl
  have b0 : Bi next U a (s.1, s.2.dropLast) := ⟨b.nd, b.inU, nl'.1, fun x hx => b.sub x (by rw [sp]; exact List.mem_append_left _ hx), b.at0, b.rch⟩
  have hn : h ∉ s.2.dropLast := fun z => nl'.2.2 h z h (.head _) rfl
  have e : bfsStep next s = (next h).foldl addNew (s.1, s.2.dropLast) := by unfold bfsStep; rw [hl]
  rw [e]
  refine ⟨b0.fold fun y hy => ⟨hU h (b.inU h hs) y hy, .step (b.rch h hs) hy⟩, fun x hx hxl y hy => ?_, ?_⟩
  · by_cases hxs : x ∈ s.1
    · by_cases hx2 : x ∈ s.2
      · rw [sp] at hx2
        rcases List.mem_append.mp hx2 with z | z
        · -- x is still in the line
          exfalso
          apply hxl
          exact fold_line (ys := next h) z
        · rw [List.mem_singleton] at z
          subst z
          exact fold_mem hy
      · exact fold_mono (c x hxs hx2 y hy)
    · exfalso
      -- new ones stand in the line
      exact hxl ((fold_new (ys := next h) (o := s.1) (t := (s.1, s.2.dropLast)) (fun z hz => .inl hz) x hx).resolve_left hxs)
  · have h1 := fold_diff (ys := next h) (s := (s.1, s.2.dropLast))
    have h2 : s.2.length = s.2.dropLast.length + 1 := by
      have := congrArg List.length sp
      rw [List.length_append, List.length_singleton] at this
      exact this
    simp only at h1 ⊢
    omega
theorem bfs_go {next : α → List α} {U : List α} (hU : ∀ x ∈ U, ∀ y ∈ next x, y ∈ U) {a : α} : ∀ (k : Nat) (s : List α × List α), Bi next U a s → Clo next s → U.length + s.2.length < k + s.1.length →
    ∃ f, runW bfsCond (bfsStep next) k s = some (f, []) ∧ Bi next U a (f, []) ∧ Clo next (f, [])
  | 0, s, b, _, h => by
    have h1 := nodup_len b.nd b.inU
    omega
  | k + 1, s, b, c, h => by
    unfold runW
    cases hc : bfsCond s with
    | false =>
      rw [if_neg (by decide)]
      have e : s.2 = [] := by
        unfold bfsCond at hc
        cases h2 : s.2 with
        | nil => rfl
        | cons u v => rw [h2] at hc; cases hc
      have e2 : s = (s.1, []) := by rw [← e]
      exact ⟨s.1, congrArg some e2, e2 ▸ b, e2 ▸ c⟩
    | true =>
      rw [if_pos rfl]
      obtain ⟨b', c', hl⟩ := step_all hU b c hc
      exact bfs_go hU k _ b' c' (by omega)
theorem bfs_run {next : α → List α} {U : List α} (hU : ∀ x ∈ U, ∀ y ∈ next x, y ∈ U) {a : α} (ha : a ∈ U) {k : Nat} (hk : U.length < k) :
    ∃ f, runW bfsCond (bfsStep next) k ([a], [a]) = some (f, []) ∧ f.Nodup ∧ (∀ x ∈ f, x ∈ U) ∧ ∀ x, x ∈ f ↔ Reach next a x := by
  have b : Bi next U a ([a], [a]) := ⟨nd1 _, fun x hx => by rw [List.mem_singleton] at hx; subst hx; exact ha, nd1 _, fun x hx => hx, .head _, fun x hx => by rw [List.mem_singleton] at hx; subst hx; exact .refl⟩
  obtain ⟨f, e, b', c⟩ := bfs_go hU k ([a], [a]) b (fun x hx hn => absurd hx hn) (by simp only [List.length_singleton]; omega)
  refine ⟨f, e, b'.nd, b'.inU, fun x => ⟨b'.rch x, fun r => ?_⟩⟩
  induction r with
  | refl => exact b'.at0
  | step _ hy ih => exact c _ ih List.not_mem_nil _ hy
end
end VL

/-! Y5: rows as data: ==, in, sorted, a dict whose keys are rows. -/
namespace VL
open PySem PySem.Spec PyProof.Rows L2
theorem okEqA_ints : ∀ (a b : List Int) (n : Nat), okEqA (a.map PyData.int) n (b.map PyData.int) = true
  | [], _, _ => by simp [okEqA]
  | _ :: _, [], _ => by simp [okEqA]
  | x :: a, y :: b, n => by
    rw [List.map_cons, List.map_cons, okEqA_cons, okEqA_ints a b n]
    simp [okEq]
theorem eqvAll_ints : ∀ (a b : List Int), PyData.eqvAll (a.map PyData.int) (b.map PyData.int) = decide (a = b)
  | [], [] => by simp [PyData.eqvAll]
  | [], _ :: _ => by simp [PyData.eqvAll]
  | _ :: _, [] => by simp [PyData.eqvAll]
  | x :: a, y :: b => by
    rw [List.map_cons, List.map_cons]
    have e : PyData.eqvAll (.int x :: a.map PyData.int) (.int y :: b.map PyData.int) = (PyData.eqv (.int x) (.int y) && PyData.eqvAll (a.map PyData.int) (b.map PyData.int)) := by simp [PyData.eqvAll]
    rw [e, eqvAll_ints a b]
    have e2 : PyData.eqv (.int x) (.int y) = decide (x = y) := by simp [PyData.eqv]; rfl
    rw [e2]
    by_cases h : x = y <;> by_cases h' : a = b <;> simp [h, h']

/-! ### rows as data -/
theorem eqvAll_I' (a b : List Int) : PyData.eqvAll (a.map PyData.int) (b.map PyData.int) = decide (a = b) := eqvAll_ints a b
theorem eqv_mD (a b : List Int) : PyData.eqv (mD a) (mD b) = decide (a = b) := eqv_dI a b
theorem okEq_mD (a b : List Int) (n : Nat) : okEq (mD a) (n + 1) (mD b) = true := by
  unfold mD
  rw [okEq_tuple]
  exact okEqA_ints _ _ _
theorem mD_inj {a b : List Int} (h : mD a = mD b) : a = b := by
  have h1 := eqv_mD a b
  have h2 := eqv_mD b b
  rw [h] at h1
  rw [h1] at h2
  simpa using h2
theorem inA_rows (t : List Int) (ls : List (List Int)) : inA (mD t) (ls.map mD) = some (.bool (decide (t ∈ ls))) := by
  unfold inA
  rw [if_pos (List.all_eq_true.mpr fun y hy => by
    obtain ⟨i, _, rfl⟩ := List.mem_map.mp hy
    exact okEq_mD _ _ _)]
  congr 2
  induction ls with
  | nil => simp
  | cons n r ih =>
    rw [List.map_cons, List.any_cons, ih, eqv_mD]
    simp [List.mem_cons, eq_comm]
theorem in_rowsT (t : List Int) (ls : List (List Int)) : inD (mD t) (.tuple (ls.map mD)) = some (.bool (decide (t ∈ ls))) := inA_rows t ls
theorem in_rowsL (t : List Int) (ls : List (List Int)) : inD (mD t) (.list (ls.map mD)) = some (.bool (decide (t ∈ ls))) := inA_rows t ls
theorem notin_rowsT (t : List Int) (ls : List (List Int)) : notInD (mD t) (.tuple (ls.map mD)) = some (.bool (!decide (t ∈ ls))) := by unfold notInD; rw [in_rowsT]; rfl
theorem eqvAll_rows : ∀ (a b : List (List Int)), PyData.eqvAll (a.map mD) (b.map mD) = decide (a = b)
  | [], [] => by simp [PyData.eqvAll]
  | [], _ :: _ => by simp [PyData.eqvAll]
  | _ :: _, [] => by simp [PyData.eqvAll]
  | x :: a, y :: b => by
    rw [List.map_cons, List.map_cons]
    have e : PyData.eqvAll (mD x :: a.map mD) (mD y :: b.map mD) = (PyData.eqv (mD x) (mD y) && PyData.eqvAll (a.map mD) (b.map mD)) := by simp [PyData.eqvAll]
    rw [e, eqvAll_rows a b, eqv_mD]
    by_cases h : x = y <;> by_cases h' : a = b <;> simp [h, h']
theorem okEqA_rows : ∀ (a b : List (List Int)) (k : Nat), okEqA (a.map mD) (k + 1) (b.map mD) = true
  | [], _, _ => by simp [okEqA]
  | _ :: _, [], _ => by simp [okEqA]
  | x :: a, y :: b, k => by
    rw [List.map_cons, List.map_cons, okEqA_cons, okEqA_rows a b k, okEq_mD]; rfl
theorem ne_rowsL (a b : List (List Int)) : neD (.list (a.map mD)) (.list (b.map mD)) = some (.bool (!decide (a = b))) := by
  show (if okEq (.list (a.map mD)) 60 (.list (b.map mD)) = true then some (PyData.bool (!PyData.eqv (.list (a.map mD)) (.list (b.map mD)))) else none) = _
  rw [if_pos (by
    rw [okEq_list, Bool.or_eq_true]
    exact .inr (okEqA_rows a b 58))]
  have : PyData.eqv (.list (a.map mD)) (.list (b.map mD)) = PyData.eqvAll (a.map mD) (b.map mD) := by simp [PyData.eqv]
  rw [this, eqvAll_rows]
theorem ne_rowsT (a b : List (List Int)) : neD (.tuple (a.map mD)) (.tuple (b.map mD)) = some (.bool (!decide (a = b))) := by
  show (if okEq (.tuple (a.map mD)) 60 (.tuple (b.map mD)) = true then some (PyData.bool (!PyData.eqv (.tuple (a.map mD)) (.tuple (b.map mD)))) else none) = _
  rw [if_pos (by rw [okEq_tuple]; exact okEqA_rows a b 58)]
  have : PyData.eqv (.tuple (a.map mD)) (.tuple (b.map mD)) = PyData.eqvAll (a.map mD) (b.map mD) := by simp [PyData.eqv]
  rw [this, eqvAll_rows]
theorem eq_rowsT (a b : List (List Int)) : eqD (.tuple (a.map mD)) (.tuple (b.map mD)) = some (.bool (decide (a = b))) := by
  show (if okEq (.tuple (a.map mD)) 60 (.tuple (b.map mD)) = true then some (PyData.bool (PyData.eqv (.tuple (a.map mD)) (.tuple (b.map mD)))) else none) = _
  rw [if_pos (by rw [okEq_tuple]; exact okEqA_rows a b 58)]
  have : PyData.eqv (.tuple (a.map mD)) (.tuple (b.map mD)) = PyData.eqvAll (a.map mD) (b.map mD) := by simp [PyData.eqv]
  rw [this, eqvAll_rows]
theorem eq_row (a b : List Int) : eqD (mD a) (mD b) = some (.bool (decide (a = b))) := by
  show (if okEq (mD a) 60 (mD b) = true then some (PyData.bool (PyData.eqv (mD a) (mD b))) else none) = _
  rw [if_pos (okEq_mD a b 59), eqv_mD]
/-! ### sorted rows -/
def leI (a b : List Int) : Bool := !decide (b < a)
theorem leI_trans (a b c : List Int) (h1 : leI a b = true) (h2 : leI b c = true) : leI a c = true := by
  unfold leI at *
  simp only [Bool.not_eq_true', decide_eq_false_iff_not, List.not_lt] at *
  exact List.le_trans h1 h2
theorem leI_total (a b : List Int) : (leI a b || leI b a) = true := by
  unfold leI
  simp only [Bool.or_eq_true, Bool.not_eq_true', decide_eq_false_iff_not, List.not_lt]
  exact List.le_total _ _
theorem leI_anti (a b : List Int) (h1 : leI a b = true) (h2 : leI b a = true) : a = b := by
  unfold leI at *
  simp only [Bool.not_eq_true', decide_eq_false_iff_not, List.not_lt] at *
  exact List.le_antisymm h1 h2
theorem dataLt_mD (a b : List Int) : W.dataLt (mD a) (mD b) = decide (a < b) := by
  unfold mD
  rw [W.dataLt_tuple]
  exact W.dataLt_ints _ _
theorem sorD_rows (ls : List (List Int)) : sorD (ls.map mD) = (ls.mergeSort leI).map mD := by
  unfold sorD
  exact (List.map_mergeSort fun a _ b _ => by
    show leI a b = (!W.dataLt (mD b) (mD a))
    rw [dataLt_mD]; rfl).symm
theorem sortOk_rows {ls : List (List Int)} (h : ls.length ≤ sizeLine) : sortOk (ls.map mD) = true := sortOk_of (g := mD) alike_dI (fun a => ⟨rfl, by rw [show mD a = dI a from rfl, depth_dI]; decide⟩) h
theorem sortD_rows {ls : List (List Int)} (h : ls.length ≤ sizeLine) : sortD [.list (ls.map mD)] = some (.list ((ls.mergeSort leI).map mD)) := by
  show (if sortOk (ls.map mD) then some (PyData.list (sorD (ls.map mD))) else none) = _
  rw [if_pos (sortOk_rows h), sorD_rows]
theorem sort_to {a b : List (List Int)} (h : a.Perm b) (s : b.Pairwise fun x y => leI x y = true) : a.mergeSort leI = b :=
  List.Perm.eq_of_pairwise (le := fun x y => leI x y = true) (fun x y _ _ h1 h2 => leI_anti x y h1 h2) (List.pairwise_mergeSort leI_trans leI_total _) s ((List.mergeSort_perm _ _).trans h)
/-! ### a dict whose keys are rows -/
def fT (f : List (List Int)) : List (D × D) := f.map fun t => (mD t, .bool true)
def kI (t : List Int) : List Key := t.map Sum.inl
theorem kI_mD (t : List Int) : PyData.tuple ((kI t).map kD) = mD t := by unfold kI mD; rw [List.map_map]; rfl
theorem keysT_mD (t : List Int) : keysT (mD t) = some (kI t) := by rw [← kI_mD, keysT_kD]
theorem kI_inj {a b : List Int} (h : kI a = kI b) : a = b := by
  apply mD_inj
  rw [← kI_mD, ← kI_mD, h]
theorem tHead_fT {f : List (List Int)} (h : f ≠ []) : tHead (fT f) = true := by
  cases f with
  | nil => exact absurd rfl h
  | cons a r =>
    show (keysT (mD a)).isSome = true
    rw [keysT_mD]; rfl
theorem kHead_fT {f : List (List Int)} (h : f ≠ []) : kHead (fT f) = false := by
  cases f with
  | nil => exact absurd rfl h
  | cons a r => rfl
theorem lookT_fT (t : List Int) : ∀ f : List (List Int), (lookT (kI t) (fT f)).isSome = decide (t ∈ f)
  | [] => rfl
  | a :: r => by
    show (if keysT (mD a) = some (kI t) then some (PyData.bool true) else lookT (kI t) (fT r)).isSome = _
    rw [keysT_mD]
    by_cases h : a = t
    · subst h; simp
    · rw [if_neg fun z => h (kI_inj (Option.some.inj z)), lookT_fT t r]
      simp [Ne.symm h]
theorem in_fT {f : List (List Int)} (t : List Int) (h : f ≠ []) : inD (mD t) (.dict (fT f)) = some (.bool (decide (t ∈ f))) := by
  cases f with
  | nil => exact absurd rfl h
  | cons a r =>
    show (lookD (fT (a :: r)) (mD t)).map (fun o => PyData.bool o.isSome) = _
    have e : lookD (fT (a :: r)) (mD t) = some (lookT (kI t) (fT (a :: r))) := by
      have e1 : lookD (fT (a :: r)) (mD t) = (match keysT (mD a) with
          | some _ => (keysT (mD t)).map fun kk => lookT kk (fT (a :: r))
          | none => none) := rfl
      rw [e1, keysT_mD, keysT_mD]; rfl
    rw [e, Option.map_some, lookT_fT]
theorem notin_fT {f : List (List Int)} (t : List Int) (h : f ≠ []) : notInD (mD t) (.dict (fT f)) = some (.bool (!decide (t ∈ f))) := by unfold notInD; rw [in_fT t h]; rfl
theorem putT_fT {f : List (List Int)} {t : List Int} (h : t ∉ f) : putT (kI t) (.bool true) (fT f) = fT (f ++ [t]) := by
  unfold putT
  rw [if_neg (by
    intro z
    obtain ⟨e, he, h1⟩ := List.any_eq_true.mp z
    obtain ⟨u, hu, rfl⟩ := List.mem_map.mp he
    have h2 : keysT (mD u) = some (kI t) := of_decide_eq_true h1
    rw [keysT_mD] at h2
    rw [kI_inj (Option.some.inj h2)] at hu
    exact h hu), kI_mD]
  unfold fT
  rw [List.map_append]; rfl
theorem putD_fT {δ : List Slot} {i : Nat} {f : List (List Int)} {t : List Int} (h : δ[i]? = some (.own (.dict (fT f)))) (hn : t ∉ f) (hf : f ≠ []) (hl : f.length < sizeLine) : putD i (mD t) (.bool true) δ = some (δ.set i (.own (.dict (fT (f ++ [t]))))) := by
  unfold putD
  rw [h]
  dsimp only
  rw [if_neg (by rw [kHead_fT hf]; intro z; exact absurd z.1 (by decide)), if_pos ⟨tHead_fT hf, by unfold fT; rw [List.length_map]; exact hl⟩, keysT_mD, Option.map_some, putT_fT hn]
theorem fDiT_ev {f g : Fx D} {δ : List Slot} {t : List Int} (hf : f δ = mp (mD t)) (hg : g δ = mp (.bool true)) : fDiT f g δ = mp (.dict (fT [t])) := by
  unfold fDiT
  rw [hf, mb_mp, hg, mb_mp, keysT_mD, Option.map_some, kI_mD]; rfl
theorem len_fT {f : List (List Int)} (h : f ≠ []) : lenTD [.dict (fT f)] = some (.int (f.length : Nat)) := by
  show (if tHead (fT f) = true then some (PyData.int (fT f).length) else none) = _
  rw [if_pos (tHead_fT h)]
  unfold fT; rw [List.length_map]
theorem sd_fT {f : List (List Int)} (h : f ≠ []) (hl : f.length ≤ sizeLine) : sdTD (.dict (fT f)) = some (.list ((f.mergeSort leI).map mD)) := by
  have e : (fT f).map (·.1) = f.map mD := by unfold fT; rw [List.map_map]; rfl
  show (if tHead (fT f) = true ∧ sortOk ((fT f).map (·.1)) = true then some (PyData.list (sorD ((fT f).map (·.1)))) else none) = _
  rw [e, if_pos ⟨tHead_fT h, sortOk_rows hl⟩, sorD_rows]
theorem evPopL {i j : Nat} {δ δ' : List Slot} (h : popLD i j δ = some δ') : sPopL i j δ = mp (.nx δ') := by unfold sPopL; rw [h, ml_mp, mb_mp]
theorem popL_at {δ : List Slot} {i j : Nat} {f : List (List Int)} {t : List Int} (h : δ[j]? = some (.own (.list (f.map mD)))) (hl : f.getLast? = some t) : popLD i j δ = some ((δ.set j (.own (.list (f.dropLast.map mD)))).set i (.val (mD t))) := by
  unfold popLD
  rw [h]
  dsimp only
  rw [List.getLast?_map, hl, Option.map_some, Option.map_some, List.map_dropLast]
theorem app_at {δ : List Slot} {i : Nat} {f : List (List Int)} {t : List Int} (h : δ[i]? = some (.own (.list (f.map mD)))) (hl : f.length < sizeLine) : appD i (mD t) δ = some (δ.set i (.own (.list ((f ++ [t]).map mD)))) := by
  unfold appD
  rw [h]
  dsimp only
  rw [if_pos (by rw [List.length_map]; exact hl), List.map_append]; rfl

end VL

/-! Y6: turnings alike by cuts: the search. -/
namespace VL
open PySem PySem.Spec PyProof.Rows L2

/-- a turning with a row's roads turned -/
def flipZ (t row : List Int) : List Int := List.zipWith (fun x k => if k ≠ 0 then 1 - x else x) t row
def oneWay (ps : List (Nat × Nat)) (t : List Int) (l : List Nat) : Bool := wayCut ps (sgn t) l || wayCut ps (negZ (sgn t)) l
def nextT (n : Nat) (ps : List (Nat × Nat)) (t : List Int) : List (List Int) := ((lots n).filter (oneWay ps t)).map fun l => flipZ t (rowOf ps l)
structure Fm (n : Nat) (ps : List (Nat × Nat)) : Prop where
  n1 : 1 ≤ n
  n5 : n ≤ 5
  m7 : ps.length ≤ 7
  lt : ∀ p ∈ ps, p.1 < n ∧ p.2 < n
def isTurn (m : Nat) (t : List Int) : Prop := t.length = m ∧ ∀ x ∈ t, x = 0 ∨ x = 1
theorem mem_turns : ∀ {m : Nat} {t : List Int}, t ∈ turns m ↔ isTurn m t
  | 0, t => by
    unfold turns isTurn
    constructor
    · intro h
      rw [List.mem_singleton] at h
      subst h
      exact ⟨rfl, fun x hx => by cases hx⟩
    · intro h
      rw [List.eq_nil_of_length_eq_zero h.1]; exact .head _
  | m + 1, t => by
    show t ∈ (turns m).flatMap (fun t => [t ++ [0], t ++ [1]]) ↔ _
    rw [List.mem_flatMap]
    constructor
    · rintro ⟨u, hu, ht⟩
      obtain ⟨h1, h2⟩ := mem_turns.mp hu
      have e : t = u ++ [0] ∨ t = u ++ [1] := by simpa using ht
      rcases e with rfl | rfl <;> refine ⟨by simp [h1], fun x hx => ?_⟩ <;> rcases List.mem_append.mp hx with h | h
      · exact h2 x h
      · rw [List.mem_singleton] at h; exact .inl h
      · exact h2 x h
      · rw [List.mem_singleton] at h; exact .inr h
    · rintro ⟨h1, h2⟩
      have hne : t ≠ [] := fun z => by subst z; cases h1
      refine ⟨t.dropLast, mem_turns.mpr ⟨by rw [List.length_dropLast, h1]; rfl, fun x hx => h2 x ((List.dropLast_sublist t).subset hx)⟩, ?_⟩
      have e := List.dropLast_concat_getLast hne
      rcases h2 _ (List.getLast_mem hne) with h | h <;> rw [h] at e <;> simp [e]
theorem turns_len : ∀ m, (turns m).length = 2 ^ m
  | 0 => rfl
  | m + 1 => by
    show ((turns m).flatMap (fun t => [t ++ [0], t ++ [1]])).length = _
    have : ∀ l : List (List Int), (l.flatMap (fun t => [t ++ [0], t ++ [1]])).length = 2 * l.length := fun l => by
      induction l with
      | nil => rfl
      | cons a r ih => rw [List.flatMap_cons, List.length_append, ih, List.length_cons]; simp; omega
    rw [this, turns_len m, Nat.pow_succ]; omega
theorem turns_128 {m : Nat} (h : m ≤ 7) : (turns m).length ≤ 128 := by
  rw [turns_len]
  calc 2 ^ m ≤ 2 ^ 7 := Nat.pow_le_pow_right (by decide) h
    _ = 128 := rfl
section
variable {n : Nat} {ps : List (Nat × Nat)} {t : List Int}
theorem sgn_len (t : List Int) : (sgn t).length = t.length := by unfold sgn; rw [List.length_map]
theorem negZ_len (t : List Int) : (negZ t).length = t.length := by unfold negZ; rw [List.length_map]
theorem sgn_mem (h : isTurn ps.length t) : ∀ x ∈ sgn t, x = 0 ∨ x = 1 ∨ x = -1 := fun x hx => by
  obtain ⟨y, hy, rfl⟩ := List.mem_map.mp hx
  rcases h.2 y hy with rfl | rfl
  · exact .inr (.inl rfl)
  · exact .inr (.inr rfl)
theorem Fm.frm (F : Fm n ps) (h : isTurn ps.length t) : Frm n ps (sgn t) := ⟨F.n1, by have := F.n5; omega, by have := F.m7; omega, F.lt, by rw [sgn_len, h.1], sgn_mem h⟩
theorem Fm.frm' (F : Fm n ps) (h : isTurn ps.length t) : Frm n ps (negZ (sgn t)) := ⟨F.n1, by have := F.n5; omega, by have := F.m7; omega, F.lt, by rw [negZ_len, sgn_len, h.1], fun x hx => by
  obtain ⟨y, hy, rfl⟩ := List.mem_map.mp hx
  rcases sgn_mem h y hy with rfl | rfl | rfl
  · exact .inl rfl
  · exact .inr (.inr rfl)
  · exact .inr (.inl rfl)⟩
theorem zipW_zip {α β γ : Type} (f : α → β → γ) (a : List α) (b : List β) : List.zipWith f a b = (a.zip b).map fun p => f p.1 p.2 := by rw [List.zip_eq_zipWith, List.map_zipWith]
theorem flip_turn (h : isTurn ps.length t) (l : List Nat) : isTurn ps.length (flipZ t (rowOf ps l)) := by
  refine ⟨by unfold flipZ; rw [List.length_zipWith, h.1, rowOf_len, Nat.min_self], fun x hx => ?_⟩
  unfold flipZ at hx
  rw [zipW_zip] at hx
  obtain ⟨p, hp, rfl⟩ := List.mem_map.mp hx
  have := h.2 _ (List.of_mem_zip hp).1
  split <;> omega
theorem next_turn (h : t ∈ turns ps.length) : ∀ u ∈ nextT n ps t, u ∈ turns ps.length := fun u hu => by
  unfold nextT at hu
  obtain ⟨l, _, rfl⟩ := List.mem_map.mp hu
  exact mem_turns.mpr (flip_turn (mem_turns.mp h) l)
theorem fold_if {α β σ : Type} (step : σ → β → σ) (c : α → Bool) (f : α → β) : ∀ (xs : List α) (s : σ), xs.foldl (fun s x => if c x = true then step s (f x) else s) s = ((xs.filter c).map f).foldl step s
  | [], s => rfl
  | x :: xs, s => by
    rw [List.foldl_cons, fold_if step c f xs]
    cases h : c x with
    | true => rw [if_pos rfl, List.filter_cons_of_pos h, List.map_cons, List.foldl_cons]
    | false => rw [if_neg (by decide), List.filter_cons_of_neg (by simp [h])]
def bAin : Fx Flow := (fSeq (sSet 8 (fCall 2 sem_row_of_lot (fCons (gv 0) (fCons (gv 7) fNil)))) (fSeq (sSet 9 (fc tupleD (fCons (lcF (fSq (gv 6)) (gSet 12) (fun _ => mp true) (f1 negD (gw 12)) [12]) fNil))) (fIf (fOr (fB (fCall 3 sem_is_one_way_cut (fCons (gv 0) (fCons (gv 6) (fCons (gv 7) fNil))))) (fB (fCall 3 sem_is_one_way_cut (fCons (gv 0) (fCons (gv 9) (fCons (gv 7) fNil)))))) (fSeq (sSet 10 (fc tupleD (fCons (lcF (fZpS (fCons (gv 5) (fCons (gv 8) fNil))) (gTp 2 (gAC (gSet 11) (gAC (gSet 13) gAN))) (fun _ => mp true) (fIf (fB (f2 neD (gw 13) (fun _ => mp (.int 0)))) (f2 subD (fun _ => mp (.int 1)) (gw 11)) (gv 11)) [11, 13]) fNil))) (fIf (fB (f2 notInD (gw 10) (gw 3))) (fSeq (sPut 3 (fun _ => mp (.bool true)) (gv 10)) (sApp 4 (gv 10))) (fun δ => mp (.nx δ)))) (fun δ => mp (.nx δ)))))
def bA : Fx Flow := (fSeq (sPopL 5 4) (fSeq (sSet 6 (fc tupleD (fCons (lcF (fSq (gv 5)) (gSet 11) (fun _ => mp true) (f2 subD (fun _ => mp (.int 1)) (f2 mulD (fun _ => mp (.int 2)) (gw 11))) [11]) fNil))) (fSeq (sFor (fSq (gv 2)) (gSet 7) bAin) (fIf (fB (f2 gtD (fc lenTD (fCons (gw 3) fNil)) (fun _ => mp (.int 2000)))) (fun _ => m0) (fun δ => mp (.nx δ))))))
theorem b_alike_eq : b_alike_by_cuts = fSeq (sPar3 2 3 4 .o .o (fCall 1 sem_all_crossing_lots (fCons (f2 itemD (gw 0) (fun _ => mp (.int 0))) fNil)) (fDiT (gv 1) (fun _ => mp (.bool true))) (fc lstD (fCons (gv 1) fNil))) (fSeq (whF (fB (f2 neD (gw 4) (fc lstD fNil))) bA fuel_alike_by_cuts) (sRet (fc tupleD (fCons (f1 sdTD (gw 3)) fNil)))) := rfl
/-- the state within -/
def stA (n : Nat) (ps : List (Nat × Nat)) (a : List Int) (s : List (List Int) × List (List Int)) (x5 x6 x7 x8 x9 x10 : Slot) : List Slot :=
  [.val (fD n ps), .val (mD a), .val (.list ((lots n).map nD)), .own (.dict (fT s.1)), .own (.list (s.2.map mD)), x5, x6, x7, x8, x9, x10, .nil, .nil, .nil]
theorem bi_len {a : List Int} {s : List (List Int) × List (List Int)} {nx : List Int → List (List Int)} (m7 : ps.length ≤ 7) (b : Bi nx (turns ps.length) a s) : s.1.length ≤ 128 ∧ s.2.length ≤ 128 := by
  have h := turns_128 m7
  have h1 := nodup_len b.nd b.inU
  have h2 := nodup_len b.nl b.sub
  omega
theorem bi_ne {a : List Int} {s : List (List Int) × List (List Int)} {nx : List Int → List (List Int)} (b : Bi nx (turns ps.length) a s) : s.1 ≠ [] := fun z => by
  have := b.at0
  rw [z] at this
  cases this
theorem evOr' (F : Fm n ps) {a h : List Int} (ht : isTurn ps.length h) {s : List (List Int) × List (List Int)} {l : List Nat} {x8 x10 : Slot} :
    fOr (fB (fCall 3 sem_is_one_way_cut (fCons (gv 0) (fCons (gv 6) (fCons (gv 7) fNil))))) (fB (fCall 3 sem_is_one_way_cut (fCons (gv 0) (fCons (gv 9) (fCons (gv 7) fNil))))) (stA n ps a s (.val (mD h)) (.val (mD (sgn h))) (.val (nD l)) x8 (.val (mD (negZ (sgn h)))) x10) = mp (oneWay ps h l) := by
  unfold oneWay
  exact evOr (evB (evCall (evCons rfl (evCons rfl (evCons rfl evNil))) rfl (sp_is_one_way_cut (F.frm ht)))) fun _ => evB (evCall (evCons rfl (evCons rfl (evCons rfl evNil))) rfl (sp_is_one_way_cut (F.frm' ht)))
theorem evOrT (F : Fm n ps) {a h : List Int} (ht : isTurn ps.length h) {s : List (List Int) × List (List Int)} {l : List Nat} {x8 x10 : Slot} (hc : oneWay ps h l = true) :
    fOr (fB (fCall 3 sem_is_one_way_cut (fCons (gv 0) (fCons (gv 6) (fCons (gv 7) fNil))))) (fB (fCall 3 sem_is_one_way_cut (fCons (gv 0) (fCons (gv 9) (fCons (gv 7) fNil))))) (stA n ps a s (.val (mD h)) (.val (mD (sgn h))) (.val (nD l)) x8 (.val (mD (negZ (sgn h)))) x10) = mp true := by rw [evOr' F ht, hc]
theorem evOrF (F : Fm n ps) {a h : List Int} (ht : isTurn ps.length h) {s : List (List Int) × List (List Int)} {l : List Nat} {x8 x10 : Slot} (hc : oneWay ps h l = false) :
    fOr (fB (fCall 3 sem_is_one_way_cut (fCons (gv 0) (fCons (gv 6) (fCons (gv 7) fNil))))) (fB (fCall 3 sem_is_one_way_cut (fCons (gv 0) (fCons (gv 9) (fCons (gv 7) fNil))))) (stA n ps a s (.val (mD h)) (.val (mD (sgn h))) (.val (nD l)) x8 (.val (mD (negZ (sgn h)))) x10) = mp false := by rw [evOr' F ht, hc]
theorem alike_in (F : Fm n ps) {a h : List Int} (hh : h ∈ turns ps.length) (hr : Reach (nextT n ps) a h) {s : List (List Int) × List (List Int)} (b : Bi (nextT n ps) (turns ps.length) a s) {l : List Nat} (hl : l ∈ lots n) (x7 x8 x9 x10 : Slot) :
    ∃ y8 y9 y10, bAin (stA n ps a s (.val (mD h)) (.val (mD (sgn h))) (.val (nD l)) x8 x9 x10) = mp (.nx (stA n ps a (if oneWay ps h l = true then addNew s (flipZ h (rowOf ps l)) else s) (.val (mD h)) (.val (mD (sgn h))) (.val (nD l)) y8 y9 y10)) ∧
      Bi (nextT n ps) (turns ps.length) a (if oneWay ps h l = true then addNew s (flipZ h (rowOf ps l)) else s) := by
  have ht := mem_turns.mp hh
  have m7 := F.m7
  have hlen := ht.1
  have e8 : sem_row_of_lot [fD n ps, nD l] = some (mD (rowOf ps l)) := sp_row_of_lot (by omega)
  have hs16 : (sgn h).length ≤ 65536 := by rw [sgn_len]; omega
  have e9 : fc tupleD (fCons (lcF (fSq (gv 6)) (gSet 12) (fun _ => mp true) (f1 negD (gw 12)) [12]) fNil) (stA n ps a s (.val (mD h)) (.val (mD (sgn h))) (.val (nD l)) (.val (mD (rowOf ps l))) x9 x10) = mp (mD (negZ (sgn h))) := by
    refine evc (evCons (ev_lc1 (fun x => .int (-x)) rfl hs16 rfl fun x _ => ev1 rfl rfl) evNil) ?_
    rw [tup_l (by rw [List.length_map]; exact hs16)]
    unfold mD negZ
    rw [List.map_map]; rfl
  unfold bAin
  by_cases hc : oneWay ps h l = true
  · rw [if_pos hc]
    have hu : flipZ h (rowOf ps l) ∈ turns ps.length := mem_turns.mpr (flip_turn ht l)
    have hnx : flipZ h (rowOf ps l) ∈ nextT n ps h := List.mem_map.mpr ⟨l, List.mem_filter.mpr ⟨hl, hc⟩, rfl⟩
    have b' := b.add hu (.step hr hnx)
    have e10 : fc tupleD (fCons (lcF (fZpS (fCons (gv 5) (fCons (gv 8) fNil))) (gTp 2 (gAC (gSet 11) (gAC (gSet 13) gAN))) (fun _ => mp true) (fIf (fB (f2 neD (gw 13) (fun _ => mp (.int 0)))) (f2 subD (fun _ => mp (.int 1)) (gw 11)) (gv 11)) [11, 13]) fNil)
        (stA n ps a s (.val (mD h)) (.val (mD (sgn h))) (.val (nD l)) (.val (mD (rowOf ps l))) (.val (mD (negZ (sgn h)))) x10) = mp (mD (flipZ h (rowOf ps l))) := by
      refine evc (evCons (ev_zip2 (fun x k => .int (if k ≠ 0 then 1 - x else x)) (evCons rfl (evCons rfl evNil)) (by omega) (by rw [rowOf_len, hlen]) rfl fun x k => ?_) evNil) ?_
      · refine evIf (evB (ev2 rfl rfl (ne_int _ _))) (fun hk => ?_) fun hk => ?_
        · rw [if_pos (by simpa using hk)]
          exact ev2 rfl rfl rfl
        · rw [if_neg (by simpa using hk)]; rfl
      · rw [tup_l (by rw [List.length_zipWith]; omega), zipW_int]; rfl
    have hl2 := bi_len m7 b
    have hz := small16 (show 129 ≤ 65536 by decide)
    by_cases hm : flipZ h (rowOf ps l) ∈ s.1
    · refine ⟨.val (mD (rowOf ps l)), .val (mD (negZ (sgn h))), .val (mD (flipZ h (rowOf ps l))), evSeq (evSet (evCall (evCons rfl (evCons rfl evNil)) rfl e8)) (evSeq (evSet e9) (evIfT (evOrT F ht hc) (evSeq (evSet e10) ?_))), b'⟩
      unfold addNew
      rw [if_pos hm]
      exact evIfF (evB (ev2 rfl rfl ((notin_fT _ (bi_ne b)).trans (by rw [decide_eq_true hm]; rfl)))) rfl
    · refine ⟨.val (mD (rowOf ps l)), .val (mD (negZ (sgn h))), .val (mD (flipZ h (rowOf ps l))), evSeq (evSet (evCall (evCons rfl (evCons rfl evNil)) rfl e8)) (evSeq (evSet e9) (evIfT (evOrT F ht hc) (evSeq (evSet e10) ?_))), b'⟩
      unfold addNew
      rw [if_neg hm]
      exact evIfT (evB (ev2 rfl rfl ((notin_fT _ (bi_ne b)).trans (by rw [decide_eq_false hm]; rfl)))) (evSeq (evPut rfl rfl (putD_fT rfl hm (bi_ne b) (by omega))) (evApp rfl (app_at rfl (by omega))))
  · rw [if_neg hc]
    exact ⟨.val (mD (rowOf ps l)), .val (mD (negZ (sgn h))), x10, evSeq (evSet (evCall (evCons rfl (evCons rfl evNil)) rfl e8)) (evSeq (evSet e9) (evIfF (evOrF F ht (by simpa using hc)) rfl)), b⟩
end

end VL

/-! Y7: turnings alike by cuts: what is handed back. -/
namespace VL
open PySem PySem.Spec PyProof.Rows L2
section
variable {n : Nat} {ps : List (Nat × Nat)} {t : List Int}
theorem lots_len (h : n ≤ 5) : (lots n).length ≤ 16 := by
  match n, h with
  | 0, _ => decide
  | 1, _ => decide
  | 2, _ => decide
  | 3, _ => decide
  | 4, _ => decide
  | 5, _ => decide
theorem alike_for (F : Fm n ps) {a h : List Int} (hh : h ∈ turns ps.length) (hr : Reach (nextT n ps) a h) {s : List (List Int) × List (List Int)} (b : Bi (nextT n ps) (turns ps.length) a s) (x7 x8 x9 x10 : Slot) :
    ∃ y7 y8 y9 y10, sFor (fSq (gv 2)) (gSet 7) bAin (stA n ps a s (.val (mD h)) (.val (mD (sgn h))) x7 x8 x9 x10) = mp (.nx (stA n ps a ((nextT n ps h).foldl addNew s) (.val (mD h)) (.val (mD (sgn h))) y7 y8 y9 y10)) := by
  have hl := lots_len F.n5
  obtain ⟨δ', e1, e2⟩ := forF_pure (g := gSet 7) (b := bAin) (enc := nD) (σ := List (List Int) × List (List Int)) (rep := fun s δ => Bi (nextT n ps) (turns ps.length) a s ∧ ∃ y7 y8 y9 y10, δ = stA n ps a s (.val (mD h)) (.val (mD (sgn h))) y7 y8 y9 y10)
    (step := fun s l => if oneWay ps h l = true then addNew s (flipZ h (rowOf ps l)) else s) (lots n) (fun s l δ hl ⟨b, y7, y8, y9, y10, e⟩ => by
      subst e
      obtain ⟨z8, z9, z10, e3, b'⟩ := alike_in F hh hr b hl y7 y8 y9 y10
      exact ⟨_, _, rfl, e3, b', _, _, _, _, rfl⟩) s _ ⟨b, x7, x8, x9, x10, rfl⟩
  obtain ⟨_, y7, y8, y9, y10, e⟩ := e2
  refine ⟨y7, y8, y9, y10, evFor (evSq rfl (seq_l (by rw [List.length_map]; exact small16 (by omega)))) ?_⟩
  rw [e1, e, fold_if addNew (oneWay ps h) fun l => flipZ h (rowOf ps l)]
  rfl
theorem bfsStep_eq {α : Type} [DecidableEq α] {next : α → List α} {s : List α × List α} {h : α} (hl : s.2.getLast? = some h) : bfsStep next s = (next h).foldl addNew (s.1, s.2.dropLast) := by unfold bfsStep; rw [hl]
theorem alike_step (F : Fm n ps) {a : List Int} {s : List (List Int) × List (List Int)} (b : Bi (nextT n ps) (turns ps.length) a s) (hc : bfsCond s = true) (x5 x6 x7 x8 x9 x10 : Slot) :
    ∃ y5 y6 y7 y8 y9 y10, bA (stA n ps a s x5 x6 x7 x8 x9 x10) = mp (.nx (stA n ps a (bfsStep (nextT n ps) s) y5 y6 y7 y8 y9 y10)) ∧ Bi (nextT n ps) (turns ps.length) a (bfsStep (nextT n ps) s) := by
  have hne : s.2 ≠ [] := fun z => by unfold bfsCond at hc; rw [z] at hc; cases hc
  obtain ⟨h, hl⟩ : ∃ h, s.2.getLast? = some h := ⟨_, List.getLast?_eq_some_getLast hne⟩
  have sp := getLast_split hl
  have hs : h ∈ s.1 := b.sub h (by rw [sp]; exact List.mem_append_right _ (.head _))
  have hU := b.inU h hs
  have hR := b.rch h hs
  have nl := b.nl
  rw [sp] at nl
  have nl' := List.nodup_append.mp nl
  have b0 : Bi (nextT n ps) (turns ps.length) a (s.1, s.2.dropLast) := ⟨b.nd, b.inU, nl'.1, fun x hx => b.sub x (by rw [sp]; exact List.mem_append_left _ hx), b.at0, b.rch⟩
  have b1 : Bi (nextT n ps) (turns ps.length) a ((nextT n ps h).foldl addNew (s.1, s.2.dropLast)) := b0.fold fun y hy => ⟨next_turn hU y hy, .step hR hy⟩
  have ht := mem_turns.mp hU
  have m7 := F.m7
  have hlen := ht.1
  obtain ⟨y7, y8, y9, y10, ef⟩ := alike_for F hU hR b0 x7 x8 x9 x10
  have hlen2 := bi_len m7 b1
  refine ⟨.val (mD h), .val (mD (sgn h)), y7, y8, y9, y10, ?_, ?_⟩
  · rw [bfsStep_eq hl]
    unfold bA
    refine evSeq (evPopL (popL_at (f := s.2) (t := h) rfl hl)) (evSeq (δ' := stA n ps a (s.1, s.2.dropLast) (.val (mD h)) (.val (mD (sgn h))) x7 x8 x9 x10) (evSet (evc (evCons (ev_lc1 (fun x => .int (1 - 2 * x)) rfl (by omega) rfl fun x _ => sgn_at rfl) evNil) (sgn_ev (by omega)))) (evSeq ef ?_))
    refine evIfF (evB (ev2 (evc (evCons rfl evNil) (len_fT (bi_ne b1))) rfl ?_)) rfl
    show some (PyData.bool (decide ((((nextT n ps h).foldl addNew (s.1, s.2.dropLast)).1.length : Int) > 2000))) = _
    rw [decide_eq_false (by omega)]
  · rw [bfsStep_eq hl]; exact b1
theorem alike_while (F : Fm n ps) {a : List Int} (ha : a ∈ turns ps.length) {due : List (List Int)} (hd : due.Pairwise fun x y => leI x y = true) (nd : due.Nodup) (hm : ∀ x, x ∈ due ↔ Reach (nextT n ps) a x) :
    sem_alike_by_cuts [fD n ps, mD a] = some (.tuple (due.map mD)) := by
  have m7 := F.m7
  have h128 := turns_128 m7
  obtain ⟨f, er, fnd, fU, fm⟩ := bfs_run (next := nextT n ps) (U := turns ps.length) (fun x hx => next_turn hx) ha (k := fuel_alike_by_cuts) (by show _ < 300; omega)
  have b : Bi (nextT n ps) (turns ps.length) a ([a], [a]) := ⟨nd1 _, fun x hx => by rw [List.mem_singleton] at hx; subst hx; exact ha, nd1 _, fun x hx => hx, .head _, fun x hx => by rw [List.mem_singleton] at hx; subst hx; exact .refl⟩
  obtain ⟨δ', e1, b1, x5, x6, x7, x8, x9, x10, e2⟩ := whF_pure (c := fB (f2 neD (gw 4) (fc lstD fNil))) (b := bA) (rep := fun s δ => Bi (nextT n ps) (turns ps.length) a s ∧ ∃ x5 x6 x7 x8 x9 x10, δ = stA n ps a s x5 x6 x7 x8 x9 x10) bfsCond (bfsStep (nextT n ps)) (fun s δ ⟨b, x5, x6, x7, x8, x9, x10, e⟩ => by
    subst e
    refine ⟨evB (ev2 rfl (evc evNil (lst_ok (Nat.zero_le _))) ((ne_nil _).trans (by rw [isEmpty_map]; rfl))), fun hc => ?_⟩
    obtain ⟨y5, y6, y7, y8, y9, y10, e3, b'⟩ := alike_step F b hc x5 x6 x7 x8 x9 x10
    exact ⟨_, e3, b', _, _, _, _, _, _, rfl⟩) _ ([a], [a]) (f, []) (stA n ps a ([a], [a]) .nil .nil .nil .nil .nil .nil) ⟨b, _, _, _, _, _, _, rfl⟩ er
  subst e2
  have hf : f ≠ [] := fun z => by
    have := (fm a).mpr .refl
    rw [z] at this; cases this
  have hfl := nodup_len fnd fU
  have hp : f.Perm due := (List.perm_ext_iff_of_nodup fnd nd).mpr fun x => (fm x).trans (hm x).symm
  have h5 := F.n5
  have e0 : sPar3 2 3 4 .o .o (fCall 1 sem_all_crossing_lots (fCons (f2 itemD (gw 0) (fun _ => mp (.int 0))) fNil)) (fDiT (gv 1) (fun _ => mp (.bool true))) (fc lstD (fCons (gv 1) fNil))
      [.val (fD n ps), .val (mD a), .nil, .nil, .nil, .nil, .nil, .nil, .nil, .nil, .nil, .nil, .nil, .nil] = mp (.nx (stA n ps a ([a], [a]) .nil .nil .nil .nil .nil .nil)) := by
    unfold sPar3
    rw [show fCall 1 sem_all_crossing_lots (fCons (f2 itemD (gw 0) (fun _ => mp (.int 0))) fNil) [.val (fD n ps), .val (mD a), .nil, .nil, .nil, .nil, .nil, .nil, .nil, .nil, .nil, .nil, .nil, .nil] = mp (.list ((lots n).map nD)) from evCall (evCons (ev2 rfl rfl (fD0 n ps)) evNil) rfl (sp_all_crossing_lots F.n1 F.n5), mb_mp,
      show fDiT (gv 1) (fun _ => mp (.bool true)) [.val (fD n ps), .val (mD a), .nil, .nil, .nil, .nil, .nil, .nil, .nil, .nil, .nil, .nil, .nil, .nil] = mp (.dict (fT [a])) from fDiT_ev rfl rfl, mb_mp,
      show fc lstD (fCons (gv 1) fNil) [.val (fD n ps), .val (mD a), .nil, .nil, .nil, .nil, .nil, .nil, .nil, .nil, .nil, .nil, .nil, .nil] = mp (.list [mD a]) from evc (evCons rfl evNil) (lst_ok (small16 (by show 1 ≤ 65536; decide))), mb_mp]
    rfl
  refine evRun ?_
  rw [b_alike_eq]
  refine evSeq e0 (evSeq e1 (evRet (evc (evCons (ev1 rfl (sd_fT (f := f) hf (by have := small16 (show 128 ≤ 65536 by decide); omega))) evNil) ?_)))
  rw [sort_to hp hd]
  exact tup_l (by rw [List.length_map]; have := hp.length_eq; omega)
end
end VL

/-! Y8: cuts of two sides that hang together, within the signs of a cut row. No program in sight. -/
namespace VL
open Classical in
section
variable {n : Nat} {ps : List (Nat × Nat)}
/-- the frame hangs together -/
def Conn (n : Nat) (ps : List (Nat × Nat)) : Prop := ∀ S : Nat → Prop, S 0 → (∀ p ∈ ps, S p.1 ↔ S p.2) → ∀ c, c < n → S c
/-- some crossings hang together by roads between them -/
def ConnIn (ps : List (Nat × Nat)) (L : Nat → Prop) : Prop := ∃ u, L u ∧ ∀ S : Nat → Prop, S u → (∀ p ∈ ps, L p.1 → L p.2 → (S p.1 ↔ S p.2)) → ∀ c, L c → S c
def Comp (ps : List (Nat × Nat)) (S : Nat → Prop) (u c : Nat) : Prop := S c ∧ ∀ T : Nat → Prop, T u → (∀ p ∈ ps, S p.1 → S p.2 → (T p.1 ↔ T p.2)) → T c
theorem Comp.self {S : Nat → Prop} {u : Nat} (h : S u) : Comp ps S u u := ⟨h, fun _ t _ => t⟩
theorem Comp.road {S : Nat → Prop} {u : Nat} {p : Nat × Nat} (hp : p ∈ ps) (h1 : S p.1) (h2 : S p.2) : Comp ps S u p.1 ↔ Comp ps S u p.2 :=
  ⟨fun ⟨_, h⟩ => ⟨h2, fun T t c => (c p hp h1 h2).mp (h T t c)⟩, fun ⟨_, h⟩ => ⟨h1, fun T t c => (c p hp h1 h2).mpr (h T t c)⟩⟩
theorem Comp.conn {S : Nat → Prop} {u : Nat} (h : S u) : ConnIn ps (Comp ps S u) := by
  refine ⟨u, .self h, fun T t c x hx => ?_⟩
  refine (hx.2 (fun z => Comp ps S u z ∧ T z) ⟨.self h, t⟩ fun p hp h1 h2 => ?_).2
  have r := Comp.road (u := u) hp h1 h2
  constructor
  · rintro ⟨a, b⟩
    exact ⟨r.mp a, (c p hp a (r.mp a)).mp b⟩
  · rintro ⟨a, b⟩
    exact ⟨r.mpr a, (c p hp (r.mpr a) a).mpr b⟩
/-- within a cut's sides there are such sides that both hang together; roads between them are roads of the cut, the same way round -/
theorem bond {n : Nat} {ps : List (Nat × Nat)} (lt : ∀ p ∈ ps, p.1 < n ∧ p.2 < n) (hc : Conn n ps) {S : Nat → Prop} {u v : Nat} (hun : u < n) (hvn : v < n) (hu : S u) (hv : ¬ S v) (huv : (u, v) ∈ ps ∨ (v, u) ∈ ps) :
    ∃ L : Nat → Prop, L u ∧ ¬ L v ∧ (∀ p ∈ ps, L p.1 → ¬ L p.2 → S p.1 ∧ ¬ S p.2) ∧ (∀ p ∈ ps, ¬ L p.1 → L p.2 → ¬ S p.1 ∧ S p.2) ∧ ConnIn ps (fun c => c < n ∧ L c) ∧ ConnIn ps (fun c => c < n ∧ ¬ L c) := by
  let S' : Nat → Prop := fun c => c < n ∧ S c
  let C := Comp ps S' u
  have hCu : C u := .self ⟨hun, hu⟩
  let R : Nat → Prop := fun c => c < n ∧ ¬ C c
  have hCv : ¬ C v := fun z => hv z.1.2
  have hRv : R v := ⟨hvn, hCv⟩
  let E := Comp ps R v
  have hEv : E v := .self hRv
  have hEC : ∀ c, E c → ¬ C c := fun c h => h.1.2
  -- a road that leaves E leads to C
  have out1 : ∀ p ∈ ps, E p.1 → ¬ E p.2 → C p.2 ∧ ¬ S p.1 := fun p hp h1 h2 => by
    have hl := lt p hp
    have c2 : C p.2 := by
      refine Classical.byContradiction fun z => ?_
      exact h2 ((Comp.road hp h1.1 ⟨hl.2, z⟩).mp h1)
    refine ⟨c2, fun z => ?_⟩
    exact h1.1.2 ((Comp.road hp ⟨hl.1, z⟩ c2.1).mpr c2)
  have out2 : ∀ p ∈ ps, ¬ E p.1 → E p.2 → C p.1 ∧ ¬ S p.2 := fun p hp h1 h2 => by
    have hl := lt p hp
    have c2 : C p.1 := by
      refine Classical.byContradiction fun z => ?_
      exact h1 ((Comp.road hp ⟨hl.1, z⟩ h2.1).mpr h2)
    refine ⟨c2, fun z => ?_⟩
    exact h2.1.2 ((Comp.road hp c2.1 ⟨hl.2, z⟩).mp c2)
  refine ⟨fun c => ¬ E c, fun z => hEC u z hCu, fun z => z hEv, fun p hp h1 h2 => ?_, fun p hp h1 h2 => ?_, ?_, ?_⟩
  · have := out2 p hp h1 (Classical.byContradiction h2)
    exact ⟨this.1.1.2, this.2⟩
  · have := out1 p hp (Classical.byContradiction h1) h2
    exact ⟨this.2, this.1.1.2⟩
  · refine ⟨u, ⟨hun, fun z => hEC u z hCu⟩, fun T t cl c hcn => ?_⟩
    -- all of C is in T
    have tC : ∀ c, C c → T c := fun c hc => by
      refine (hc.2 (fun z => C z ∧ T z) ⟨hCu, t⟩ fun p hp h1 h2 => ?_).2
      have r := Comp.road (u := u) hp h1 h2
      have hl := lt p hp
      constructor
      · rintro ⟨a, b⟩
        exact ⟨r.mp a, (cl p hp ⟨hl.1, fun z => hEC _ z a⟩ ⟨hl.2, fun z => hEC _ z (r.mp a)⟩).mp b⟩
      · rintro ⟨a, b⟩
        exact ⟨r.mpr a, (cl p hp ⟨hl.1, fun z => hEC _ z (r.mpr a)⟩ ⟨hl.2, fun z => hEC _ z a⟩).mpr b⟩
    have all : ∀ c, c < n → (E c ∨ T c) := by
      have key : ∀ p ∈ ps, (E p.1 ∨ T p.1) ↔ (E p.2 ∨ T p.2) := fun p hp => by
        have hl := lt p hp
        by_cases e1 : E p.1 <;> by_cases e2 : E p.2
        · exact ⟨fun _ => .inl e2, fun _ => .inl e1⟩
        · exact ⟨fun _ => .inr (tC _ (out1 p hp e1 e2).1), fun _ => .inl e1⟩
        · exact ⟨fun _ => .inl e2, fun _ => .inr (tC _ (out2 p hp e1 e2).1)⟩
        · have := cl p hp ⟨hl.1, e1⟩ ⟨hl.2, e2⟩
          exact ⟨fun h => .inr (this.mp (h.resolve_left e1)), fun h => .inr (this.mpr (h.resolve_left e2))⟩
      by_cases h0 : E 0 ∨ T 0
      · exact hc (fun c => E c ∨ T c) h0 key
      · exfalso
        have := hc (fun c => ¬ (E c ∨ T c)) h0 (fun p hp => not_congr (key p hp)) u hun
        exact this (.inr t)
    exact (all c hcn.1).resolve_left hcn.2
  · have := Comp.conn (ps := ps) hRv
    obtain ⟨w, hw, hT⟩ := this
    refine ⟨w, ⟨hw.1.1, fun z => z hw⟩, fun T t cl c hcn => ?_⟩
    exact hT T t (fun p hp h1 h2 => cl p hp ⟨h1.1.1, fun z => z h1⟩ ⟨h2.1.1, fun z => z h2⟩) c (Classical.byContradiction hcn.2)
end
section
variable {α : Type} [DecidableEq α] {next : α → List α}
theorem Reach.trans {a b c : α} (h1 : Reach next a b) (h2 : Reach next b c) : Reach next a c := by
  induction h2 with
  | refl => exact h1
  | step _ hy ih => exact .step ih hy
theorem reach_gen (μ : α → Nat) (x : α) (P : α → Prop) (h : ∀ a, P a → a ≠ x → ∃ y, y ∈ next a ∧ P y ∧ μ y < μ a) : ∀ (k : Nat) (a : α), μ a < k → P a → Reach next a x
  | 0, a, hk, _ => absurd hk (Nat.not_lt_zero _)
  | k + 1, a, hk, p => by
    by_cases e : a = x
    · subst e; exact .refl
    · obtain ⟨y, hy, py, hm⟩ := h a p e
      exact (Reach.step .refl hy).trans (reach_gen μ x P h k y (by omega) py)
end
theorem sum_le {f g : Nat → Nat} : ∀ {l : List Nat}, (∀ r ∈ l, f r ≤ g r) → (l.map f).sum ≤ (l.map g).sum
  | [], _ => Nat.le_refl _
  | a :: l, h => by
    rw [List.map_cons, List.map_cons, List.sum_cons, List.sum_cons]
    exact Nat.add_le_add (h a (.head _)) (sum_le fun r hr => h r (.tail _ hr))
theorem sum_lt {f g : Nat → Nat} : ∀ {l : List Nat} {r0 : Nat}, (∀ r ∈ l, f r ≤ g r) → r0 ∈ l → f r0 < g r0 → (l.map f).sum < (l.map g).sum
  | a :: l, r0, h, h0, h1 => by
    rw [List.map_cons, List.map_cons, List.sum_cons, List.sum_cons]
    rcases List.mem_cons.mp h0 with rfl | h2
    · exact Nat.add_lt_add_of_lt_of_le h1 (sum_le fun r hr => h r (.tail _ hr))
    · exact Nat.add_lt_add_of_le_of_lt (h a (.head _)) (sum_lt (fun r hr => h r (.tail _ hr)) h2 h1)
end VL

/-! Y9: turnings that differ by a cut row: a least cut leads nearer. No program in sight. -/
namespace VL
section
variable {n : Nat} {ps : List (Nat × Nat)}
theorem subs0_filter (P : Nat → Bool) (h0 : P 0 = true) : ∀ k, (List.range (k + 1)).filter P ∈ subs0 k
  | 0 => by
    show _ ∈ [[0]]
    have : (List.range 1).filter P = [0] := by
      show [0].filter P = [0]
      rw [List.filter_cons_of_pos h0]; rfl
    rw [this]; exact .head _
  | k + 1 => by
    rw [List.range_succ, List.filter_append]
    have ih := subs0_filter P h0 k
    show _ ∈ subs0 k ++ (subs0 k).map fun l => l ++ [k + 1]
    cases h : P (k + 1) with
    | true =>
      rw [List.filter_cons_of_pos h, List.filter_nil]
      exact List.mem_append_right _ (List.mem_map.mpr ⟨_, ih, rfl⟩)
    | false =>
      rw [List.filter_cons_of_neg (by simp [h]), List.filter_nil, List.append_nil]
      exact List.mem_append_left _ ih
theorem mem_lots (h1 : 1 ≤ n) (P : Nat → Bool) (h0 : P 0 = true) {c : Nat} (hc : c < n) (hp : P c = false) : (List.range n).filter P ∈ lots n := by
  unfold lots
  refine List.mem_filter.mpr ⟨?_, decide_eq_true ?_⟩
  · have := subs0_filter P h0 (n - 1)
    rw [show n - 1 + 1 = n by omega] at this
    exact this
  · have h2 : ((List.range n).filter P).length < (List.range n).length := by
      refine Nat.lt_of_le_of_ne (List.length_filter_le _ _) fun z => ?_
      have := List.length_filter_eq_length_iff.mp z c (List.mem_range.mpr hc)
      rw [hp] at this; cases this
    rw [List.length_range] at h2
    exact h2
/-- a lot's other crossings -/
def restOf (n : Nat) (l : List Nat) : List Nat := (List.range n).filter fun c => !decide (c ∈ l)
theorem mem_restOf {l : List Nat} {c : Nat} : c ∈ restOf n l ↔ c < n ∧ c ∉ l := by
  unfold restOf
  rw [List.mem_filter, List.mem_range]
  simp
/-- a lot's row at a road -/
def rw_ (ps : List (Nat × Nat)) (l : List Nat) (r : Nat) : Int := inI (ps.getD r (0, 0)).1 l - inI (ps.getD r (0, 0)).2 l
theorem rowOf_at {l : List Nat} {r : Nat} (h : r < ps.length) : (rowOf ps l).getD r 0 = rw_ ps l r := by
  unfold rowOf rw_
  rw [List.getD_eq_getElem?_getD, List.getElem?_map, List.getElem?_eq_getElem h, List.getD_eq_getElem?_getD, List.getElem?_eq_getElem h]; rfl
theorem road_in {r : Nat} (h : r < ps.length) : ps.getD r (0, 0) ∈ ps := by
  rw [List.getD_eq_getElem?_getD, List.getElem?_eq_getElem h]
  exact List.getElem_mem h
/-- x less y is the rising row of h -/
def HD (ps : List (Nat × Nat)) (y x : List Int) (h : Nat → Int) : Prop := ∀ r, r < ps.length → x.getD r 0 - y.getD r 0 = h (ps.getD r (0, 0)).2 - h (ps.getD r (0, 0)).1
theorem turn_at {m : Nat} {t : List Int} (h : isTurn m t) {r : Nat} (hr : r < m) : t.getD r 0 = 0 ∨ t.getD r 0 = 1 := by
  rw [List.getD_eq_getElem?_getD, List.getElem?_eq_getElem (by rw [h.1]; exact hr)]
  exact h.2 _ (List.getElem_mem _)
theorem turn_ext {m : Nat} {a b : List Int} (ha : a.length = m) (hb : b.length = m) (h : ∀ r, r < m → a.getD r 0 = b.getD r 0) : a = b := by
  apply List.ext_getElem (ha.trans hb.symm)
  intro i h1 h2
  have := h i (by omega)
  rw [List.getD_eq_getElem?_getD, List.getElem?_eq_getElem h1, List.getD_eq_getElem?_getD, List.getElem?_eq_getElem h2] at this
  exact this
theorem inI_in {c : Nat} {l : List Nat} (h : c ∈ l) : inI c l = 1 := if_pos h
theorem inI_out {c : Nat} {l : List Nat} (h : c ∉ l) : inI c l = 0 := if_neg h
theorem conn_ext {A B : Nat → Prop} (h : ∀ c, A c ↔ B c) (k : ConnIn ps A) : ConnIn ps B := by
  have : A = B := funext fun c => propext (h c)
  exact this ▸ k
theorem bond_step (F : Fm n ps) (hc : Conn n ps) {y x : List Int} (hy : isTurn ps.length y) (hx : isTurn ps.length x) {h : Nat → Int} (hd : HD ps y x h) (ne : y ≠ x) :
    ∃ l σ, l ∈ lots n ∧ (∀ c ∈ l, c < n) ∧ l.Nodup ∧ ConnIn ps (· ∈ l) ∧ ConnIn ps (· ∈ restOf n l) ∧ (σ = 1 ∨ σ = -1) ∧ (∀ r, r < ps.length → rw_ ps l r = 0 ∨ σ * rw_ ps l r = x.getD r 0 - y.getD r 0) ∧ ∃ r0, r0 < ps.length ∧ rw_ ps l r0 ≠ 0 := by
  obtain ⟨r0, hr0, hn0⟩ : ∃ r, r < ps.length ∧ y.getD r 0 ≠ x.getD r 0 := by
    refine Classical.byContradiction fun z => ne (turn_ext hy.1 hx.1 fun r hr => ?_)
    refine Classical.byContradiction fun z2 => z ⟨r, hr, z2⟩
  have hp0 := F.lt _ (road_in hr0)
  have d0 := hd r0 hr0
  -- the higher end and the lower end
  obtain ⟨u, v, hu, hv, huv, hroad⟩ : ∃ u v, u < n ∧ v < n ∧ h v < h u ∧ ((u, v) ∈ ps ∨ (v, u) ∈ ps) := by
    by_cases hh : h (ps.getD r0 (0, 0)).1 < h (ps.getD r0 (0, 0)).2
    · exact ⟨_, _, hp0.2, hp0.1, hh, .inr (road_in hr0)⟩
    · exact ⟨_, _, hp0.1, hp0.2, by omega, .inl (road_in hr0)⟩
  obtain ⟨L, hLu, hLv, ho1, ho2, c1, c2⟩ := bond F.lt hc (S := fun c => h u ≤ h c) hu hv (Int.le_refl _) (by omega) hroad
  classical
  -- how far a road of the cut goes
  have far : ∀ r, r < ps.length → (L (ps.getD r (0, 0)).1 → ¬ L (ps.getD r (0, 0)).2 → x.getD r 0 - y.getD r 0 = -1) ∧ (¬ L (ps.getD r (0, 0)).1 → L (ps.getD r (0, 0)).2 → x.getD r 0 - y.getD r 0 = 1) := fun r hr => by
    have d := hd r hr
    have t1 := turn_at hy hr
    have t2 := turn_at hx hr
    constructor
    · intro a b
      obtain ⟨s1, s2⟩ := ho1 _ (road_in hr) a b
      omega
    · intro a b
      obtain ⟨s1, s2⟩ := ho2 _ (road_in hr) a b
      omega
  obtain ⟨r1, hr1, hcr⟩ : ∃ r, r < ps.length ∧ ((L (ps.getD r (0, 0)).1 ∧ ¬ L (ps.getD r (0, 0)).2) ∨ (¬ L (ps.getD r (0, 0)).1 ∧ L (ps.getD r (0, 0)).2)) := by
    rcases hroad with q | q <;> obtain ⟨r, hr, e⟩ := List.mem_iff_getElem.mp q <;> refine ⟨r, hr, ?_⟩ <;> rw [List.getD_eq_getElem?_getD, List.getElem?_eq_getElem hr] <;> simp only [Option.getD_some, e]
    · exact .inl ⟨hLu, hLv⟩
    · exact .inr ⟨hLv, hLu⟩
  -- the lot that has crossing 0
  by_cases hz : L 0
  · have hmem : ∀ c, c ∈ (List.range n).filter (fun c => decide (L c)) ↔ c < n ∧ L c := fun c => by rw [List.mem_filter, List.mem_range]; simp
    have hres : ∀ c, c ∈ restOf n ((List.range n).filter fun c => decide (L c)) ↔ c < n ∧ ¬ L c := fun c => by
      rw [mem_restOf, hmem]
      constructor
      · rintro ⟨a, b⟩; exact ⟨a, fun z => b ⟨a, z⟩⟩
      · rintro ⟨a, b⟩; exact ⟨a, fun z => b z.2⟩
    have hrow : ∀ r, r < ps.length → rw_ ps ((List.range n).filter fun c => decide (L c)) r = (if L (ps.getD r (0, 0)).1 then 1 else 0) - (if L (ps.getD r (0, 0)).2 then 1 else 0) := fun r hr => by
      have hl := F.lt _ (road_in hr)
      unfold rw_ inI
      simp only [hmem, hl.1, hl.2, true_and]
    refine ⟨_, -1, mem_lots F.n1 (fun c => decide (L c)) (decide_eq_true hz) hv (decide_eq_false hLv), fun c hc' => ((hmem c).mp hc').1, List.nodup_range.filter _, conn_ext (fun c => (hmem c).symm) c1, conn_ext (fun c => (hres c).symm) c2, .inr rfl, fun r hr => ?_, r1, hr1, ?_⟩
    · rw [hrow r hr]
      have := far r hr
      by_cases a : L (ps.getD r (0, 0)).1 <;> by_cases b : L (ps.getD r (0, 0)).2
      · left; rw [if_pos a, if_pos b]; rfl
      · right; rw [if_pos a, if_neg b, this.1 a b]; rfl
      · right; rw [if_neg a, if_pos b, this.2 a b]; rfl
      · left; rw [if_neg a, if_neg b]; rfl
    · rw [hrow r1 hr1]
      rcases hcr with ⟨a, b⟩ | ⟨a, b⟩
      · rw [if_pos a, if_neg b]; decide
      · rw [if_neg a, if_pos b]; decide
  · have hmem : ∀ c, c ∈ (List.range n).filter (fun c => !decide (L c)) ↔ c < n ∧ ¬ L c := fun c => by rw [List.mem_filter, List.mem_range]; simp
    have hres : ∀ c, c ∈ restOf n ((List.range n).filter fun c => !decide (L c)) ↔ c < n ∧ L c := fun c => by
      rw [mem_restOf, hmem]
      constructor
      · rintro ⟨a, b⟩; exact ⟨a, Classical.byContradiction fun z => b ⟨a, z⟩⟩
      · rintro ⟨a, b⟩; exact ⟨a, fun z => z.2 b⟩
    have hrow : ∀ r, r < ps.length → rw_ ps ((List.range n).filter fun c => !decide (L c)) r = (if L (ps.getD r (0, 0)).1 then 0 else 1) - (if L (ps.getD r (0, 0)).2 then 0 else 1) := fun r hr => by
      have hl := F.lt _ (road_in hr)
      unfold rw_ inI
      simp only [hmem, hl.1, hl.2, true_and, ite_not]
    refine ⟨_, 1, mem_lots F.n1 (fun c => !decide (L c)) (by simp [hz]) hu (by simp [hLu]), fun c hc' => ((hmem c).mp hc').1, List.nodup_range.filter _, conn_ext (fun c => (hmem c).symm) c2, conn_ext (fun c => (hres c).symm) c1, .inl rfl, fun r hr => ?_, r1, hr1, ?_⟩
    · rw [hrow r hr]
      have := far r hr
      by_cases a : L (ps.getD r (0, 0)).1 <;> by_cases b : L (ps.getD r (0, 0)).2
      · left; rw [if_pos a, if_pos b]; rfl
      · right; rw [if_pos a, if_neg b, this.1 a b]; rfl
      · right; rw [if_neg a, if_pos b, this.2 a b]; rfl
      · left; rw [if_neg a, if_neg b]; rfl
    · rw [hrow r1 hr1]
      rcases hcr with ⟨a, b⟩ | ⟨a, b⟩
      · rw [if_pos a, if_neg b]; decide
      · rw [if_neg a, if_pos b]; decide
end
end VL

/-! Y10: turnings alike by cuts are those that differ by a cut row. No program in sight. -/
namespace VL
section
variable {n : Nat} {ps : List (Nat × Nat)}
theorem zipW_at {f : Int → Int → Int} {a b : List Int} {r : Nat} (ha : r < a.length) (hb : r < b.length) : (List.zipWith f a b).getD r 0 = f (a.getD r 0) (b.getD r 0) := by
  rw [List.getD_eq_getElem?_getD, List.getElem?_zipWith, List.getD_eq_getElem?_getD, List.getD_eq_getElem?_getD, List.getElem?_eq_getElem ha, List.getElem?_eq_getElem hb]; rfl
theorem flip_at {y : List Int} (hy : y.length = ps.length) {l : List Nat} {r : Nat} (hr : r < ps.length) : (flipZ y (rowOf ps l)).getD r 0 = if rw_ ps l r ≠ 0 then 1 - y.getD r 0 else y.getD r 0 := by
  unfold flipZ
  rw [zipW_at (by omega) (by rw [rowOf_len]; exact hr), rowOf_at hr]
theorem sgn_getD {y : List Int} {r : Nat} (hr : r < y.length) : (sgn y).getD r 0 = 1 - 2 * y.getD r 0 := by
  unfold sgn
  rw [List.getD_eq_getElem?_getD, List.getElem?_map, List.getElem?_eq_getElem hr, List.getD_eq_getElem?_getD, List.getElem?_eq_getElem hr]; rfl
theorem negZ_getD {y : List Int} {r : Nat} (hr : r < y.length) : (negZ y).getD r 0 = - y.getD r 0 := by
  unfold negZ
  rw [List.getD_eq_getElem?_getD, List.getElem?_map, List.getElem?_eq_getElem hr, List.getD_eq_getElem?_getD, List.getElem?_eq_getElem hr]; rfl
theorem oneWay_iff (F : Fm n ps) {y : List Int} (hy : isTurn ps.length y) (l : List Nat) : oneWay ps y l = true ↔
    (∀ r, r < ps.length → rw_ ps l r = 0 ∨ 1 - 2 * y.getD r 0 = rw_ ps l r) ∨ (∀ r, r < ps.length → rw_ ps l r = 0 ∨ -(1 - 2 * y.getD r 0) = rw_ ps l r) := by
  unfold oneWay
  have h1 : (∀ r, r < ps.length → rw_ ps l r = 0 ∨ (sgn y).getD r 0 = rw_ ps l r) ↔ (∀ r, r < ps.length → rw_ ps l r = 0 ∨ 1 - 2 * y.getD r 0 = rw_ ps l r) :=
    forall_congr' fun r => forall_congr' fun hr => by rw [sgn_getD (by rw [hy.1]; exact hr)]
  have h2 : (∀ r, r < ps.length → rw_ ps l r = 0 ∨ (negZ (sgn y)).getD r 0 = rw_ ps l r) ↔ (∀ r, r < ps.length → rw_ ps l r = 0 ∨ -(1 - 2 * y.getD r 0) = rw_ ps l r) :=
    forall_congr' fun r => forall_congr' fun hr => by rw [negZ_getD (by rw [sgn_len, hy.1]; exact hr), sgn_getD (by rw [hy.1]; exact hr)]
  rw [Bool.or_eq_true, wayCut_iff (F.frm hy), wayCut_iff (F.frm' hy)]
  exact or_congr h1 h2
theorem HD.refl (a : List Int) : HD ps a a (fun _ => 0) := fun r _ => by simp
theorem HD.trans {a b c : List Int} {h k : Nat → Int} (x : HD ps a b h) (y : HD ps b c k) : HD ps a c (fun i => h i + k i) := fun r hr => by
  have := x r hr
  have := y r hr
  show _ = (h _ + k _) - (h _ + k _)
  omega
theorem HD.symm {a b : List Int} {h : Nat → Int} (x : HD ps a b h) : HD ps b a (fun i => - h i) := fun r hr => by
  have := x r hr
  show _ = - h _ - - h _
  omega
/-- a turned one-way cut changes a turning by a cut row -/
theorem flip_HD (F : Fm n ps) {y : List Int} (hy : isTurn ps.length y) {l : List Nat} (ho : oneWay ps y l = true) : ∃ h, HD ps y (flipZ y (rowOf ps l)) h := by
  rcases (oneWay_iff F hy l).mp ho with q | q
  · refine ⟨fun c => - inI c l, fun r hr => ?_⟩
    rw [flip_at hy.1 hr]
    have e : rw_ ps l r = inI (ps.getD r (0, 0)).1 l - inI (ps.getD r (0, 0)).2 l := rfl
    have := q r hr
    have := turn_at hy hr
    dsimp only
    split <;> omega
  · refine ⟨fun c => inI c l, fun r hr => ?_⟩
    rw [flip_at hy.1 hr]
    have e : rw_ ps l r = inI (ps.getD r (0, 0)).1 l - inI (ps.getD r (0, 0)).2 l := rfl
    have := q r hr
    have := turn_at hy hr
    dsimp only
    split <;> omega
/-- how far x is from y -/
def mu (m : Nat) (x y : List Int) : Nat := ((List.range m).map fun r => (x.getD r 0 - y.getD r 0).natAbs).sum
/-- what a least cut within x - y does -/
theorem flip_near {y x : List Int} (hy : isTurn ps.length y) (hx : isTurn ps.length x) {h : Nat → Int} (hd : HD ps y x h) {l : List Nat} {σ : Int} (hσ : σ = 1 ∨ σ = -1)
    (hl : ∀ r, r < ps.length → rw_ ps l r = 0 ∨ σ * rw_ ps l r = x.getD r 0 - y.getD r 0) {r0 : Nat} (hr0 : r0 < ps.length) (hn : rw_ ps l r0 ≠ 0) :
    (∃ k, HD ps (flipZ y (rowOf ps l)) x k) ∧ mu ps.length x (flipZ y (rowOf ps l)) < mu ps.length x y := by
  have at_ : ∀ r, r < ps.length → (flipZ y (rowOf ps l)).getD r 0 - y.getD r 0 = σ * rw_ ps l r ∧ (rw_ ps l r ≠ 0 → (flipZ y (rowOf ps l)).getD r 0 = x.getD r 0 ∧ x.getD r 0 ≠ y.getD r 0) ∧ (rw_ ps l r = 0 → (flipZ y (rowOf ps l)).getD r 0 = y.getD r 0) := fun r hr => by
    rw [flip_at hy.1 hr]
    have h1 := turn_at hy hr
    have h2 := turn_at hx hr
    by_cases z : rw_ ps l r = 0
    · rw [if_neg (fun w => w z), z]
      exact ⟨by simp, fun w => absurd rfl w, fun _ => rfl⟩
    · have h3 := (hl r hr).resolve_left z
      rw [if_pos z]
      have h4 : x.getD r 0 ≠ y.getD r 0 := by
        rcases hσ with rfl | rfl <;> omega
      refine ⟨by omega, fun _ => ⟨by omega, h4⟩, fun w => absurd w z⟩
  refine ⟨⟨fun c => h c + σ * inI c l, fun r hr => ?_⟩, ?_⟩
  · have h1 := (at_ r hr).1
    have h2 := hd r hr
    have e : rw_ ps l r = inI (ps.getD r (0, 0)).1 l - inI (ps.getD r (0, 0)).2 l := rfl
    rw [e] at h1
    show _ = (h _ + σ * inI _ l) - (h _ + σ * inI _ l)
    rcases hσ with rfl | rfl <;> omega
  · unfold mu
    refine sum_lt (r0 := r0) (fun r hr => ?_) (List.mem_range.mpr hr0) ?_
    · obtain ⟨_, h2, h3⟩ := at_ r (List.mem_range.mp hr)
      by_cases z : rw_ ps l r = 0
      · rw [h3 z]; exact Nat.le_refl _
      · rw [(h2 z).1]; simp
    · obtain ⟨_, h2, _⟩ := at_ r0 hr0
      obtain ⟨h4, h5⟩ := h2 hn
      rw [h4]
      have : (x.getD r0 0 - x.getD r0 0).natAbs = 0 := by simp
      omega
theorem alike_iff (F : Fm n ps) (hc : Conn n ps) {a x : List Int} (ha : isTurn ps.length a) : Reach (nextT n ps) a x ↔ isTurn ps.length x ∧ ∃ h, HD ps a x h := by
  constructor
  · intro r
    induction r with
    | refl => exact ⟨ha, _, .refl a⟩
    | step _ hy ih =>
      obtain ⟨t, h, hd⟩ := ih
      obtain ⟨l, hl, rfl⟩ := List.mem_map.mp hy
      obtain ⟨k, hk⟩ := flip_HD F t (List.mem_filter.mp hl).2
      exact ⟨flip_turn t l, _, hd.trans hk⟩
  · rintro ⟨hx, h, hd⟩
    refine reach_gen (mu ps.length x) x (fun y => isTurn ps.length y ∧ ∃ h, HD ps y x h) (fun y ⟨hy, k, hk⟩ ne => ?_) _ a (Nat.lt_succ_self _) ⟨ha, h, hd⟩
    obtain ⟨l, σ, hl, _, _, _, _, hσ, hrow, r0, hr0, hn⟩ := bond_step F hc hy hx hk ne
    obtain ⟨hk', hm⟩ := flip_near hy hx hk hσ hrow hr0 hn
    refine ⟨_, List.mem_map.mpr ⟨l, List.mem_filter.mpr ⟨hl, ?_⟩, rfl⟩, ⟨flip_turn hy l, hk'⟩, hm⟩
    rw [oneWay_iff F hy]
    rcases hσ with rfl | rfl
    · left
      intro r hr
      rcases hrow r hr with z | z
      · exact .inl z
      · have := turn_at hy hr
        have := turn_at hx hr
        by_cases z2 : rw_ ps l r = 0
        · exact .inl z2
        · right; omega
    · right
      intro r hr
      rcases hrow r hr with z | z
      · exact .inl z
      · have := turn_at hy hr
        have := turn_at hx hr
        by_cases z2 : rw_ ps l r = 0
        · exact .inl z2
        · right; omega
end
end VL

/-! Y11: whether a lot hangs together. -/
namespace VL
open PySem PySem.Spec PyProof.Rows L2
section
variable {n : Nat} {ps : List (Nat × Nat)}
def leZ (a b : Int) : Bool := !decide (b < a)
theorem sortD_two (a b : Nat) : sortD [.list [.int (a : Nat), .int (b : Nat)]] = some (.list [.int ((min a b : Nat)), .int ((max a b : Nat))]) := by
  have e0 : ([.int (a : Nat), .int (b : Nat)] : List D) = [((a : Nat) : Int), ((b : Nat) : Int)].map PyData.int := rfl
  have ho : sortOk ([.int (a : Nat), .int (b : Nat)] : List D) = true := by
    rw [e0]
    exact sortOk_of (fun a b => by simp [W.alike]) (fun a => by simp [okNone, PyData.depth]) (small16 (by show 2 ≤ 65536; decide))
  show (if sortOk ([.int (a : Nat), .int (b : Nat)] : List D) then some (PyData.list (sorD [.int (a : Nat), .int (b : Nat)])) else none) = _
  rw [if_pos ho]
  congr 2
  have e1 : sorD ([((a : Nat) : Int), ((b : Nat) : Int)].map PyData.int) = ([((a : Nat) : Int), ((b : Nat) : Int)].mergeSort leZ).map PyData.int := by
    unfold sorD
    exact (List.map_mergeSort fun a _ b _ => by
      show leZ a b = (!W.dataLt (.int b) (.int a))
      rw [W.dataLt_int]; rfl).symm
  rw [e0, e1]
  have e2 : [((a : Nat) : Int), ((b : Nat) : Int)].mergeSort leZ = [((min a b : Nat) : Int), ((max a b : Nat) : Int)] := by
    refine List.Perm.eq_of_pairwise (le := fun x y => leZ x y = true) (fun x y _ _ h1 h2 => ?_) (List.pairwise_mergeSort (fun a b c h1 h2 => ?_) (fun a b => ?_) _) ?_ ((List.mergeSort_perm _ _).trans ?_)
    · unfold leZ at h1 h2; simp at h1 h2; omega
    · unfold leZ at *; simp at *; omega
    · unfold leZ; simp; omega
    · rw [List.pairwise_pair]; unfold leZ; simp; omega
    · rcases Nat.le_total a b with h | h
      · rw [Nat.min_eq_left h, Nat.max_eq_right h]
      · rw [Nat.min_eq_right h, Nat.max_eq_left h]; exact List.Perm.swap _ _ _
  rw [e2]; rfl
/-- the heads with one road more -/
def stepH (ps : List (Nat × Nat)) (s : List Nat) (r : Nat) : List Nat :=
  s.map fun h => if h = max (s.getD (ps.getD r (0, 0)).1 0) (s.getD (ps.getD r (0, 0)).2 0) then min (s.getD (ps.getD r (0, 0)).1 0) (s.getD (ps.getD r (0, 0)).2 0) else h
def headsL (n : Nat) (ps : List (Nat × Nat)) (rs : List Nat) : List Nat := rs.foldl (stepH ps) (List.range n)
theorem stepH_len (s : List Nat) (r : Nat) : (stepH ps s r).length = s.length := by unfold stepH; rw [List.length_map]
theorem headsL_len (rs : List Nat) : (headsL n ps rs).length = n := by
  unfold headsL
  have : ∀ (rs : List Nat) (s : List Nat), (rs.foldl (stepH ps) s).length = s.length := fun rs => by
    induction rs with
    | nil => intro s; rfl
    | cons a r ih => intro s; rw [List.foldl_cons, ih, stepH_len]
  rw [this, List.length_range]
theorem int_of_nL (l : List Nat) : PyData.list (nL l) = .list (l.map fun i => PyData.int (i : Nat)) := rfl
theorem eq_nat (a b : Nat) : eqD (.int (a : Nat)) (.int (b : Nat)) = some (.bool (decide (a = b))) := by
  rw [eq_int, int_eq_nat]
theorem sp_heads_by (F : Fm n ps) {rs : List Nat} (hr : ∀ r ∈ rs, r < ps.length) (hl : rs.length ≤ 1000) : sem_heads_by [fD n ps, nD rs] = some (.list (nL (headsL n ps rs))) := by
  have h5 := F.n5
  have m7 := F.m7
  have e0 : f1 lrgD (f2 itemD (gw 0) (fun _ => mp (.int 0))) [.val (fD n ps), .val (nD rs), .nil, .nil, .nil, .nil, .nil, .nil] = mp (.list (nL (List.range n))) := by
    refine ev1 (ev2 rfl rfl (fD0 n ps)) ?_
    show (if rgOk ((n : Nat) : Int) = true then some (PyData.list (rngD 0 ((n : Nat) : Int).toNat)) else none) = _
    rw [if_pos (show rgOk ((n : Nat) : Int) = true from decide_eq_true ⟨by omega, by omega⟩), Int.toNat_natCast, rng0]; rfl
  obtain ⟨δ', e1, hs, x3, x4, x5, e2⟩ := forF_pure (g := gSet 3) (b := (fSeq (sTo (gLs 2 (gAC (gSet 4) (gAC (gSet 5) gAN))) (fc sortD (fCons (lcF (fSq (f2 itemD (f2 itemD (gw 0) (fun _ => mp (.int 1))) (gw 3))) (gSet 7) (fun _ => mp true) (f2 itemD (gw 2) (gw 7)) [7]) fNil))) (sSet 2 (lcF (fSq (gv 2)) (gSet 6) (fun _ => mp true) (fIf (fB (f2 eqD (gw 6) (gw 5))) (gv 4) (gv 6)) [6]))))
    (enc := fun i : Nat => PyData.int (i : Nat)) (rep := fun s δ => s.length = n ∧ ∃ x3 x4 x5, δ = [.val (fD n ps), .val (nD rs), .val (.list (nL s)), x3, x4, x5, .nil, .nil]) (step := stepH ps) rs (fun s r δ hrm ⟨hs, x3, x4, x5, e⟩ => by
      subst e
      have hrl := hr r hrm
      have hp := F.lt _ (road_in hrl)
      have at_ : ∀ c, c < n → ∀ δ : List Slot, gw 2 δ = mp (.list (nL s)) → gw 7 δ = mp (.int (c : Nat)) → f2 itemD (gw 2) (gw 7) δ = mp (.int (s.getD c 0 : Nat)) := fun c hc δ h1 h2 =>
        ev2 h1 h2 (itemL_nat (nL_at (by omega)))
      have ec : lcF (fSq (f2 itemD (f2 itemD (gw 0) (fun _ => mp (.int 1))) (gw 3))) (gSet 7) (fun _ => mp true) (f2 itemD (gw 2) (gw 7)) [7] [.val (fD n ps), .val (nD rs), .val (.list (nL s)), .val (.int (r : Nat)), x4, x5, .nil, .nil]
          = mp (.list [.int (s.getD (ps.getD r (0, 0)).1 0 : Nat), .int (s.getD (ps.getD r (0, 0)).2 0 : Nat)]) := by
        refine evLc0 (enc := fun i : Nat => PyData.int (i : Nat)) (zs := [(ps.getD r (0, 0)).1, (ps.getD r (0, 0)).2]) (fun c => PyData.int (s.getD c 0 : Nat)) (evSq (ev2 (ev2 rfl rfl (fD1 n ps)) rfl (p_at hrl)) (seq_t (small16 (by show 2 ≤ 65536; decide)))) rfl fun c hc => ⟨_, rfl, at_ c ?_ _ rfl rfl⟩
        have hc' : c = (ps.getD r (0, 0)).1 ∨ c = (ps.getD r (0, 0)).2 := by simpa using hc
        rcases hc' with rfl | rfl
        · exact hp.1
        · exact hp.2
      refine ⟨_, _, rfl, evSeq (evTo (δ' := [.val (fD n ps), .val (nD rs), .val (.list (nL s)), .val (.int (r : Nat)), .val (.int ((min (s.getD (ps.getD r (0, 0)).1 0) (s.getD (ps.getD r (0, 0)).2 0) : Nat))), .val (.int ((max (s.getD (ps.getD r (0, 0)).1 0) (s.getD (ps.getD r (0, 0)).2 0) : Nat))), .nil, .nil])
        (evc (evCons ec evNil) (sortD_two _ _)) rfl) (evSet (d := .list (nL (stepH ps s r))) ?_), by rw [stepH_len]; exact hs, _, _, _, rfl⟩
      have := evLc0 (fi := fSq (gv 2)) (gt := gSet 6) (e := fIf (fB (f2 eqD (gw 6) (gw 5))) (gv 4) (gv 6)) (vs := [6]) (δ := [.val (fD n ps), .val (nD rs), .val (.list (nL s)), .val (.int (r : Nat)), .val (.int ((min (s.getD (ps.getD r (0, 0)).1 0) (s.getD (ps.getD r (0, 0)).2 0) : Nat))), .val (.int ((max (s.getD (ps.getD r (0, 0)).1 0) (s.getD (ps.getD r (0, 0)).2 0) : Nat))), .nil, .nil])
        (enc := fun i : Nat => PyData.int (i : Nat)) (zs := s) (fun h => PyData.int ((if h = max (s.getD (ps.getD r (0, 0)).1 0) (s.getD (ps.getD r (0, 0)).2 0) then min (s.getD (ps.getD r (0, 0)).1 0) (s.getD (ps.getD r (0, 0)).2 0) else h : Nat))) (evSq rfl (seq_l (by rw [nL_len]; exact small16 (by omega)))) rfl fun h _ => ⟨_, rfl, by
          refine evIf (evB (ev2 rfl rfl (eq_nat _ _))) (fun hh => ?_) fun hh => ?_
          · rw [if_pos (by simpa using hh)]; rfl
          · rw [if_neg (by simpa using hh)]; rfl⟩
      rw [this]
      unfold stepH nL
      rw [List.map_map]; rfl) (List.range n) [.val (fD n ps), .val (nD rs), .val (.list (nL (List.range n))), .nil, .nil, .nil, .nil, .nil] ⟨List.length_range, _, _, _, rfl⟩
  subst e2
  exact evRun (evSeq (evSet e0) (evSeq (evFor (evSq rfl (seq_t (by rw [List.length_map]; exact small16 (by omega)))) e1) (evRet rfl)))
/-! ### pieces -/
def fixL (n : Nat) (hs : List Nat) : List Nat := (List.range n).filter fun c => decide (hs.getD c 0 = c)
theorem forF_idx {α σ : Type} {g : D → List Slot → Option (List Slot)} {b : Fx Flow} (enc : α → D) (rep : Nat → σ → List Slot → Prop) (step : σ → α → σ) : ∀ (xs : List α) (i : Nat),
    (∀ j s x δ, xs[j]? = some x → rep (i + j) s δ → ∃ δ1 δ2, g (enc x) δ = some δ1 ∧ b δ1 = mp (.nx δ2) ∧ rep (i + j + 1) (step s x) δ2) →
    ∀ s δ, rep i s δ → ∃ δ', forF g b (xs.map enc) δ = mp (.nx δ') ∧ rep (i + xs.length) (xs.foldl step s) δ'
  | [], i, _, s, δ, r => ⟨δ, rfl, r⟩
  | x :: xs, i, h, s, δ, r => by
    obtain ⟨δ1, δ2, h1, h2, h3⟩ := h 0 s x δ rfl r
    obtain ⟨δ', h4, h5⟩ := forF_idx enc rep step xs (i + 1) (fun j s y δ hy hr => by
      have := h (j + 1) s y δ (by simpa using hy) (by rw [show i + (j + 1) = i + 1 + j by omega]; exact hr)
      rw [show i + (j + 1) + 1 = i + 1 + j + 1 by omega] at this
      exact this) _ _ h3
    refine ⟨δ', ?_, by rw [List.length_cons, show i + (xs.length + 1) = i + 1 + xs.length by omega]; exact h5⟩
    rw [List.map_cons]
    unfold forF
    rw [h1, ml_mp, mb_mp, h2, mb_mp]
    exact h4
theorem foldl_app {α : Type} : ∀ (ys s : List α), ys.foldl (fun s y => s ++ [y]) s = s ++ ys
  | [], s => by simp
  | y :: ys, s => by rw [List.foldl_cons, foldl_app ys]; simp
theorem appD_own {δ : List Slot} {i : Nat} {ds : List D} {d : D} (h : δ[i]? = some (.own (.list ds))) (hl : ds.length < sizeLine) : appD i d δ = some (δ.set i (.own (.list (ds ++ [d])))) := by
  unfold appD
  rw [h]
  dsimp only
  rw [if_pos hl]
theorem sp_piece_count (F : Fm n ps) {rs : List Nat} (hr : ∀ r ∈ rs, r < ps.length) (hl : rs.length ≤ 1000) : sem_piece_count [fD n ps, nD rs] = some (.int ((fixL n (headsL n ps rs)).length : Nat)) := by
  have h5 := F.n5
  have hlen := headsL_len (n := n) (ps := ps) rs
  have big := small16 (show 1000 ≤ 65536 by decide)
  have at_ : ∀ d, d < n → itemD (.list (nL (headsL n ps rs))) (.int (d : Nat)) = some (.int ((headsL n ps rs).getD d 0 : Nat)) := fun d hd => itemL_nat (nL_at (by omega))
  let piece : Nat → D := fun c => nD ((List.range n).filter fun d => decide ((headsL n ps rs).getD d 0 = c))
  obtain ⟨δ', e1, hs, x4, e2⟩ := forF_idx (g := gSet 4) (b := (fIf (fB (f2 eqD (f2 itemD (gw 2) (gw 4)) (gw 4))) (sApp 3 (fc tupleD (fCons (lcF (fR1 (fCons (f2 itemD (gw 0) (fun _ => mp (.int 0))) fNil)) (gSet 5) (fB (f2 eqD (f2 itemD (gw 2) (gw 5)) (gw 4))) (gv 5) [5]) fNil))) (fun δ => mp (.nx δ))))
    (enc := fun i : Nat => PyData.int (i : Nat)) (rep := fun i s δ => s.length ≤ i ∧ ∃ x4, δ = [.val (fD n ps), .val (nD rs), .val (.list (nL (headsL n ps rs))), .own (.list s), x4, .nil])
    (step := fun (s : List D) c => if decide ((headsL n ps rs).getD c 0 = c) = true then s ++ [piece c] else s) (List.range n) 0 (fun j s c δ hj ⟨hs, x4, e⟩ => by
      subst e
      have hjl : j < n := by have := (List.getElem?_eq_some_iff.mp hj).1; rw [List.length_range] at this; exact this
      have hcj : c = j := by rw [List.getElem?_range hjl] at hj; exact (Option.some.inj hj).symm
      subst hcj
      have ec : fB (f2 eqD (f2 itemD (gw 2) (gw 4)) (gw 4)) [.val (fD n ps), .val (nD rs), .val (.list (nL (headsL n ps rs))), .own (.list s), .val (.int (c : Nat)), .nil] = mp (decide ((headsL n ps rs).getD c 0 = c)) := evB (ev2 (ev2 rfl rfl (at_ c hjl)) rfl (eq_nat _ _))
      by_cases hf : (headsL n ps rs).getD c 0 = c
      · rw [decide_eq_true hf] at ec ⊢
        rw [if_pos rfl]
        refine ⟨_, _, rfl, evIfT ec (evApp (d := piece c) (evc (evCons (evLc (enc := fun i : Nat => PyData.int (i : Nat)) (zs := List.range n) (fun d => decide ((headsL n ps rs).getD d 0 = c)) (fun d => PyData.int (d : Nat))
          ((evR1 (evCons (ev2 rfl rfl (fD0 n ps)) evNil) (by omega)).trans (by rw [rng0])) rfl fun d hd => ⟨_, rfl, evB (ev2 (ev2 rfl rfl (at_ d (List.mem_range.mp hd))) rfl (eq_nat _ _)), fun _ => rfl⟩) evNil) rfl) (appD_own rfl (by omega))), by rw [List.length_append, List.length_singleton]; omega, _, rfl⟩
      · rw [decide_eq_false hf] at ec ⊢
        rw [if_neg (by decide)]
        exact ⟨_, _, rfl, evIfF ec rfl, by omega, _, rfl⟩) [] [.val (fD n ps), .val (nD rs), .val (.list (nL (headsL n ps rs))), .own (.list []), .nil, .nil] ⟨Nat.zero_le _, _, rfl⟩
  subst e2
  rw [fold_if (fun (s : List D) y => s ++ [y]) (fun c => decide ((headsL n ps rs).getD c 0 = c)) piece, foldl_app, List.nil_append] at e1
  have ep : sem_pieces_by [fD n ps, nD rs] = some (.tuple (((List.range n).filter fun c => decide ((headsL n ps rs).getD c 0 = c)).map piece)) :=
    evRun (evSeq (evPar (k1 := .v) (k2 := .o) (a := .list (nL (headsL n ps rs))) (b := .list []) (evCall (evCons rfl (evCons rfl evNil)) rfl (sp_heads_by F hr hl)) (evc evNil (lst_ok (Nat.zero_le _)))) (evSeq (evFor ((evR1 (evCons (ev2 rfl rfl (fD0 n ps)) evNil) (by omega)).trans (by rw [rng0])) e1) (evRet (evc (evCons rfl evNil) rfl))))
  refine evRun (evRet (evc (evCons (evCall (evCons rfl (evCons rfl evNil)) rfl ep) evNil) ?_))
  rw [len_t, List.length_map]; rfl
end
end VL

/-! Y12: whether a lot hangs together by roads within it. -/
namespace VL
open PySem PySem.Spec PyProof.Rows L2
section
variable {n : Nat} {ps : List (Nat × Nat)}
def inRoads (ps : List (Nat × Nat)) (l : List Nat) : List Nat := (ps.zipIdx.filter fun q => decide (q.1.1 ∈ l) && decide (q.1.2 ∈ l)).map (·.2)
def hangsB (n : Nat) (ps : List (Nat × Nat)) (l : List Nat) : Bool := decide (((fixL n (headsL n ps (inRoads ps l))).length : Int) = (n : Int) - (l.length : Nat) + 1)
theorem inRoads_lt {l : List Nat} {r : Nat} (h : r ∈ inRoads ps l) : r < ps.length ∧ (ps.getD r (0, 0)).1 ∈ l ∧ (ps.getD r (0, 0)).2 ∈ l := by
  unfold inRoads at h
  obtain ⟨q, hq, rfl⟩ := List.mem_map.mp h
  obtain ⟨h1, h2⟩ := List.mem_filter.mp hq
  obtain ⟨h3, h4⟩ := zip_lt h1
  rw [Bool.and_eq_true] at h2
  have e : ps.getD q.2 (0, 0) = q.1 := by rw [List.getD_eq_getElem?_getD, h4]; rfl
  rw [e]
  exact ⟨h3, of_decide_eq_true h2.1, of_decide_eq_true h2.2⟩
theorem mem_inRoads {l : List Nat} {r : Nat} (hr : r < ps.length) (h1 : (ps.getD r (0, 0)).1 ∈ l) (h2 : (ps.getD r (0, 0)).2 ∈ l) : r ∈ inRoads ps l := by
  unfold inRoads
  refine List.mem_map.mpr ⟨(ps.getD r (0, 0), r), List.mem_filter.mpr ⟨List.mem_zipIdx_iff_getElem?.mpr ?_, by rw [decide_eq_true h1, decide_eq_true h2]; rfl⟩, rfl⟩
  rw [List.getD_eq_getElem?_getD, List.getElem?_eq_getElem hr]; rfl
theorem inRoads_len (l : List Nat) : (inRoads ps l).length ≤ ps.length := by
  unfold inRoads
  rw [List.length_map]
  exact Nat.le_trans (List.length_filter_le _ _) (by rw [List.length_zipIdx]; exact Nat.le_refl _)
theorem sp_hangs_within (F : Fm n ps) {l : List Nat} (hl : l.length ≤ 1000) : sem_hangs_within [fD n ps, nD l] = some (.bool (hangsB n ps l)) := by
  have h5 := F.n5
  have m7 := F.m7
  have hi := inRoads_len (ps := ps) l
  refine evRun (evSeq (evSet (d := nD (inRoads ps l)) (evc (evCons (evLc (enc := fun q : (Nat × Nat) × Nat => PyData.tuple [.int (q.2 : Nat), pD q.1]) (zs := ps.zipIdx) (fun q => decide (q.1.1 ∈ l) && decide (q.1.2 ∈ l)) (fun q => PyData.int (q.2 : Nat))
    ((evEn (ev2 rfl rfl (fD1 n ps)) (seq_t (by rw [List.length_map]; exact small16 (by omega)))).trans (by rw [enum_map])) rfl fun q hq => ⟨_, rfl, ?_, fun _ => rfl⟩) evNil) ?_)) (evRet ?_))
  · exact evAnd (evB (ev2 rfl rfl (in_nats _ l))) fun _ => evB (ev2 rfl rfl (in_nats _ l))
  · rw [tup_l (by rw [List.length_map]; exact Nat.le_trans (List.length_filter_le _ _) (by rw [List.length_zipIdx]; omega))]
    unfold nD inRoads
    rw [List.map_map]; rfl
  · refine ev2 (evCall (evCons (evc (evCons (ev2 rfl rfl (fD0 n ps)) (evCons (ev2 rfl rfl (fD1 n ps)) evNil)) (tup_ok (small16 (by show 2 ≤ 65536; decide)))) (evCons rfl evNil)) rfl (sp_piece_count F (fun r hr => (inRoads_lt hr).1) (by omega)))
      (ev2 (ev2 (ev2 rfl rfl (fD0 n ps)) (evc (evCons rfl evNil) ((len_t _).trans (by rw [List.length_map]))) rfl) rfl rfl) ?_
    exact eq_int _ _
/-! ### a lot that hangs together -/
structure Hd (n : Nat) (l : List Nat) (s : List Nat) : Prop where
  len : s.length = n
  lt : ∀ c, c < n → s.getD c 0 < n
  fix : ∀ c, c < n → s.getD (s.getD c 0) 0 = s.getD c 0
  out : ∀ c, c < n → c ∉ l → s.getD c 0 = c
  ins : ∀ c, c ∈ l → s.getD c 0 ∈ l
theorem stepH_at {s : List Nat} {r c : Nat} (hc : c < s.length) : (stepH ps s r).getD c 0 = if s.getD c 0 = max (s.getD (ps.getD r (0, 0)).1 0) (s.getD (ps.getD r (0, 0)).2 0) then min (s.getD (ps.getD r (0, 0)).1 0) (s.getD (ps.getD r (0, 0)).2 0) else s.getD c 0 := by
  unfold stepH
  rw [List.getD_eq_getElem?_getD, List.getElem?_map, List.getElem?_eq_getElem hc, List.getD_eq_getElem?_getD (l := s) (i := c), List.getElem?_eq_getElem hc]; rfl
theorem Hd.step {l s : List Nat} (hln : ∀ c ∈ l, c < n) (h : Hd n l s) {r : Nat} (h1 : (ps.getD r (0, 0)).1 ∈ l) (h2 : (ps.getD r (0, 0)).2 ∈ l) : Hd n l (stepH ps s r) := by
  have b1 := hln _ h1
  have b2 := hln _ h2
  have i1 := h.ins _ h1
  have i2 := h.ins _ h2
  have f1 := h.fix _ b1
  have f2 := h.fix _ b2
  have l1 := h.lt _ b1
  have l2 := h.lt _ b2
  have at_ : ∀ c, c < n → (stepH ps s r).getD c 0 = if s.getD c 0 = max (s.getD (ps.getD r (0, 0)).1 0) (s.getD (ps.getD r (0, 0)).2 0) then min (s.getD (ps.getD r (0, 0)).1 0) (s.getD (ps.getD r (0, 0)).2 0) else s.getD c 0 := fun c hc => stepH_at (by rw [h.len]; exact hc)
  generalize s.getD (ps.getD r (0, 0)).1 0 = a at *
  generalize s.getD (ps.getD r (0, 0)).2 0 = b at *
  have hmin : min a b = a ∨ min a b = b := by omega
  have hmax : max a b = a ∨ max a b = b := by omega
  have minl : min a b ∈ l := by rcases hmin with z | z <;> rw [z] <;> assumption
  have maxl : max a b ∈ l := by rcases hmax with z | z <;> rw [z] <;> assumption
  have minf : s.getD (min a b) 0 = min a b := by rcases hmin with z | z <;> rw [z] <;> assumption
  refine ⟨by rw [stepH_len, h.len], fun c hc => ?_, fun c hc => ?_, fun c hc hn => ?_, fun c hc => ?_⟩
  · rw [at_ c hc]
    have := h.lt c hc
    split <;> omega
  · rw [at_ c hc]
    by_cases z : s.getD c 0 = max a b
    · rw [if_pos z, at_ _ (by omega), minf]
      by_cases w : min a b = max a b
      · rw [if_pos w]
      · rw [if_neg w]
    · rw [if_neg z, at_ _ (h.lt c hc), h.fix c hc, if_neg z]
  · rw [at_ c hc, h.out c hc hn, if_neg (fun z : c = max a b => hn (by rw [z]; exact maxl))]
  · rw [at_ c (hln c hc)]
    split
    · exact minl
    · exact h.ins c hc
theorem heads_hd {l : List Nat} (hln : ∀ c ∈ l, c < n) : ∀ (rs : List Nat) (s : List Nat), Hd n l s → (∀ r ∈ rs, (ps.getD r (0, 0)).1 ∈ l ∧ (ps.getD r (0, 0)).2 ∈ l) →
    Hd n l (rs.foldl (stepH ps) s) ∧ (∀ c d, c < n → d < n → s.getD c 0 = s.getD d 0 → (rs.foldl (stepH ps) s).getD c 0 = (rs.foldl (stepH ps) s).getD d 0) ∧ ∀ r ∈ rs, (rs.foldl (stepH ps) s).getD (ps.getD r (0, 0)).1 0 = (rs.foldl (stepH ps) s).getD (ps.getD r (0, 0)).2 0
  | [], s, h, _ => ⟨h, fun c d _ _ e => e, fun r hr => by cases hr⟩
  | r :: rs, s, h, hr => by
    rw [List.foldl_cons]
    have hr0 := hr r (.head _)
    have h' := h.step (ps := ps) hln hr0.1 hr0.2
    obtain ⟨k1, k2, k3⟩ := heads_hd hln rs _ h' fun q hq => hr q (.tail _ hq)
    have b1 := hln _ hr0.1
    have b2 := hln _ hr0.2
    refine ⟨k1, fun c d hc hd e => k2 c d hc hd ?_, fun q hq => ?_⟩
    · rw [stepH_at (by rw [h.len]; exact hc), stepH_at (by rw [h.len]; exact hd), e]
    · rcases List.mem_cons.mp hq with rfl | hq
      · refine k2 _ _ b1 b2 ?_
        rw [stepH_at (by rw [h.len]; exact b1), stepH_at (by rw [h.len]; exact b2)]
        split <;> split <;> omega
      · exact k3 q hq
theorem hangs_of_conn {l : List Nat} (hln : ∀ c ∈ l, c < n) (hnd : l.Nodup) (hc : ConnIn ps (· ∈ l)) : hangsB n ps l = true := by
  have h0 : Hd n l (List.range n) := by
    have at_ : ∀ c, c < n → (List.range n).getD c 0 = c := fun c h => by rw [List.getD_eq_getElem?_getD, List.getElem?_range h]; rfl
    exact ⟨List.length_range, fun c h => by rw [at_ c h]; exact h, fun c h => by rw [at_ c h, at_ c h], fun c h _ => at_ c h, fun c h => by rw [at_ c (hln c h)]; exact h⟩
  obtain ⟨k1, _, k3⟩ := heads_hd (ps := ps) hln (inRoads ps l) (List.range n) h0 fun r hr => (inRoads_lt hr).2
  have k1' : Hd n l (headsL n ps (inRoads ps l)) := k1
  have k3' : ∀ r ∈ inRoads ps l, (headsL n ps (inRoads ps l)).getD (ps.getD r (0, 0)).1 0 = (headsL n ps (inRoads ps l)).getD (ps.getD r (0, 0)).2 0 := k3
  unfold hangsB fixL
  generalize headsL n ps (inRoads ps l) = s at k1' k3' ⊢
  obtain ⟨u, hu, hS⟩ := hc
  have all : ∀ c, c ∈ l → s.getD c 0 = s.getD u 0 := hS (fun c => s.getD c 0 = s.getD u 0) rfl fun p hp h1 h2 => by
    obtain ⟨r, hr, e⟩ := List.mem_iff_getElem.mp hp
    have e' : ps.getD r (0, 0) = p := by rw [List.getD_eq_getElem?_getD, List.getElem?_eq_getElem hr, e]; rfl
    have := k3' r (mem_inRoads hr (by rw [e']; exact h1) (by rw [e']; exact h2))
    rw [e'] at this
    rw [this]
  have hul := k1'.ins u hu
  have fixu := k1'.fix u (hln u hu)
  have hnf : ((List.range n).filter fun c => !decide (s.getD c 0 = c)).Perm (l.erase (s.getD u 0)) := by
    refine (List.perm_ext_iff_of_nodup (List.nodup_range.filter _) (hnd.erase _)).mpr fun c => ?_
    rw [List.mem_filter, List.mem_range, hnd.mem_erase_iff]
    constructor
    · rintro ⟨h1, h2⟩
      have h3 : s.getD c 0 ≠ c := by simpa using h2
      have h4 : c ∈ l := Classical.byContradiction fun z => h3 (k1'.out c h1 z)
      refine ⟨fun z => h3 ?_, h4⟩
      rw [z]; exact fixu
    · rintro ⟨h1, h2⟩
      refine ⟨hln c h2, ?_⟩
      have := all c h2
      simp only [Bool.not_eq_true', decide_eq_false_iff_not]
      rw [this]
      exact fun z => h1 z.symm
  have hl1 := List.length_erase_of_mem hul
  have hl2 := List.length_pos_of_mem hul
  have hsum : ((List.range n).filter fun c => decide (s.getD c 0 = c)).length + ((List.range n).filter fun c => !decide (s.getD c 0 = c)).length = n := by
    have : ∀ L : List Nat, (L.filter fun c => decide (s.getD c 0 = c)).length + (L.filter fun c => !decide (s.getD c 0 = c)).length = L.length := fun L => by
      induction L with
      | nil => rfl
      | cons a r ih =>
        by_cases z : s.getD a 0 = a
        · rw [List.filter_cons_of_pos (by simpa using z), List.filter_cons_of_neg (by simpa using z), List.length_cons, List.length_cons]; omega
        · rw [List.filter_cons_of_neg (by simpa using z), List.filter_cons_of_pos (by simpa using z), List.length_cons, List.length_cons]; omega
    rw [this, List.length_range]
  have := hnf.length_eq
  exact decide_eq_true (by omega)
end
end VL

/-! Y13: the rows of least cuts. -/
namespace VL
open PySem PySem.Spec PyProof.Rows L2

section
variable {n : Nat} {ps : List (Nat × Nat)}
def bothHang (n : Nat) (ps : List (Nat × Nat)) (l : List Nat) : Bool := hangsB n ps l && hangsB n ps (restOf n l)
/-- the rows of least cuts, as they are found -/
def cutsU (n : Nat) (ps : List (Nat × Nat)) : List (List Int) := ((lots n).filter (bothHang n ps)).flatMap fun l => [rowOf ps l, rowOf ps (restOf n l)]
def cuts (n : Nat) (ps : List (Nat × Nat)) : List (List Int) := (cutsU n ps).mergeSort leI
theorem notin_nats (x : Nat) (l : List Nat) : notInD (.int (x : Nat)) (nD l) = some (.bool (!decide (x ∈ l))) := by unfold notInD; rw [in_nats]; rfl
theorem fold_ext {α β : Type} (c : α → Bool) (g : α → List β) : ∀ (xs : List α) (s : List β), xs.foldl (fun s x => if c x = true then s ++ g x else s) s = s ++ (xs.filter c).flatMap g
  | [], s => by simp
  | x :: xs, s => by
    rw [List.foldl_cons, fold_ext c g xs]
    cases h : c x with
    | true => rw [if_pos rfl, List.filter_cons_of_pos h, List.flatMap_cons, List.append_assoc]
    | false => rw [if_neg (by decide), List.filter_cons_of_neg (by simp [h])]
theorem lots_short {l : List Nat} (h : l ∈ lots n) : l.length < n := of_decide_eq_true (List.mem_filter.mp h).2
theorem restOf_len (l : List Nat) : (restOf n l).length ≤ n := by
  unfold restOf
  exact Nat.le_trans (List.length_filter_le _ _) (by rw [List.length_range]; exact Nat.le_refl _)
theorem evExt {i : Nat} {f : Fx D} {δ δ' : List Slot} {d : D} (hf : f δ = mp d) (h : extD i d δ = some δ') : sExt i f δ = mp (.nx δ') := by unfold sExt; rw [hf, mb_mp, h, ml_mp, mb_mp]
theorem extD_at {δ : List Slot} {i : Nat} {ds es : List D} (h : δ[i]? = some (.own (.list ds))) (hl : ds.length + es.length ≤ sizeLine) : extD i (.list es) δ = some (δ.set i (.own (.list (ds ++ es)))) := by
  unfold extD
  rw [h]
  dsimp only
  rw [if_pos hl]
def bLC : Fx Flow := (fSeq (sSet 3 (fc tupleD (fCons (lcF (fR1 (fCons (f2 itemD (gw 0) (fun _ => mp (.int 0))) fNil)) (gSet 4) (fB (f2 notInD (gw 4) (gw 2))) (gv 4) [4]) fNil))) (fIf (fAnd (fB (fCall 2 sem_hangs_within (fCons (gv 0) (fCons (gv 2) fNil)))) (fB (fCall 2 sem_hangs_within (fCons (gv 0) (fCons (gv 3) fNil))))) (sExt 1 (fc lstD (fCons (fCall 2 sem_row_of_lot (fCons (gv 0) (fCons (gv 2) fNil))) (fCons (fCall 2 sem_row_of_lot (fCons (gv 0) (fCons (gv 3) fNil))) fNil)))) (fun δ => mp (.nx δ))))
theorem sp_least_cut_parts (F : Fm n ps) : sem_least_cut_parts [fD n ps] = some (.tuple ((cuts n ps).map mD)) ∧ (cutsU n ps).length ≤ 32 := by
  have h5 := F.n5
  have m7 := F.m7
  have hl16 := lots_len F.n5
  have big := small16 (show 1000 ≤ 65536 by decide)
  obtain ⟨δ', e1, hs, x2, x3, e2⟩ := forF_idx (g := gSet 2) (b := bLC) (enc := nD) (rep := fun i s δ => s.length ≤ 2 * i ∧ ∃ x2 x3, δ = [.val (fD n ps), .own (.list (s.map mD)), x2, x3, .nil])
    (step := fun (s : List (List Int)) l => if bothHang n ps l = true then s ++ [rowOf ps l, rowOf ps (restOf n l)] else s) (lots n) 0 (fun j s l δ hj ⟨hs, x2, x3, e⟩ => by
      subst e
      have hl := List.mem_of_getElem? hj
      have hjl := (List.getElem?_eq_some_iff.mp hj).1
      have hshort := lots_short hl
      have hrest := restOf_len (n := n) l
      have er : fc tupleD (fCons (lcF (fR1 (fCons (f2 itemD (gw 0) (fun _ => mp (.int 0))) fNil)) (gSet 4) (fB (f2 notInD (gw 4) (gw 2))) (gv 4) [4]) fNil) [.val (fD n ps), .own (.list (s.map mD)), .val (nD l), x3, .nil] = mp (nD (restOf n l)) := by
        refine evc (evCons (evLc (enc := fun i : Nat => PyData.int (i : Nat)) (zs := List.range n) (fun c => !decide (c ∈ l)) (fun c => PyData.int (c : Nat))
          ((evR1 (evCons (ev2 rfl rfl (fD0 n ps)) evNil) (by omega)).trans (by rw [rng0])) rfl fun c hc => ⟨_, rfl, evB (ev2 rfl rfl (notin_nats c l)), fun _ => rfl⟩) evNil) rfl
      have et : fAnd (fB (fCall 2 sem_hangs_within (fCons (gv 0) (fCons (gv 2) fNil)))) (fB (fCall 2 sem_hangs_within (fCons (gv 0) (fCons (gv 3) fNil)))) [.val (fD n ps), .own (.list (s.map mD)), .val (nD l), .val (nD (restOf n l)), .nil] = mp (bothHang n ps l) :=
        evAnd (evB (evCall (evCons rfl (evCons rfl evNil)) rfl (sp_hangs_within F (by omega)))) fun _ => evB (evCall (evCons rfl (evCons rfl evNil)) rfl (sp_hangs_within F (by omega)))
      by_cases hb : bothHang n ps l = true
      · rw [if_pos hb]
        rw [hb] at et
        refine ⟨_, [.val (fD n ps), .own (.list ((s ++ [rowOf ps l, rowOf ps (restOf n l)]).map mD)), .val (nD l), .val (nD (restOf n l)), .nil], rfl, evSeq (evSet er) (evIfT et (evExt (d := .list [mD (rowOf ps l), mD (rowOf ps (restOf n l))])
          (evc (evCons (evCall (evCons rfl (evCons rfl evNil)) rfl (sp_row_of_lot (by omega))) (evCons (evCall (evCons rfl (evCons rfl evNil)) rfl (sp_row_of_lot (by omega))) evNil)) (lst_ok (small16 (by show 2 ≤ 65536; decide)))) ?_)), by rw [List.length_append]; show s.length + 2 ≤ _; omega, _, _, rfl⟩
        have hx := extD_at (δ := [Slot.val (fD n ps), Slot.own (.list (s.map mD)), Slot.val (nD l), Slot.val (nD (restOf n l)), Slot.nil]) (i := 1) (ds := s.map mD) (es := [mD (rowOf ps l), mD (rowOf ps (restOf n l))]) rfl (by rw [List.length_map]; show s.length + 2 ≤ _; omega)
        refine hx.trans ?_
        rw [List.map_append]; rfl
      · have hb' : bothHang n ps l = false := by simpa using hb
        rw [if_neg hb]
        rw [hb'] at et
        exact ⟨_, _, rfl, evSeq (evSet er) (evIfF et rfl), by omega, _, _, rfl⟩) [] [.val (fD n ps), .own (.list []), .nil, .nil, .nil] ⟨Nat.zero_le _, _, _, rfl⟩
  subst e2
  rw [fold_ext (bothHang n ps) (fun l => [rowOf ps l, rowOf ps (restOf n l)]), List.nil_append] at e1 hs
  have hlen : (cutsU n ps).length ≤ 32 := by
    unfold cutsU
    omega
  refine ⟨?_, hlen⟩
  refine evRun (evSeq (evOwn (evc evNil (lst_ok (Nat.zero_le _)))) (evSeq (evFor (evSq (evCall (evCons (ev2 rfl rfl (fD0 n ps)) evNil) rfl (sp_all_crossing_lots F.n1 F.n5)) (seq_l (by rw [List.length_map]; omega))) e1) (evRet (evc (evCons (evc (evCons rfl evNil) (sortD_rows (by show (cutsU n ps).length ≤ _; omega))) evNil) ?_))))
  exact tup_l (by rw [List.length_map, List.length_mergeSort]; show (cutsU n ps).length ≤ _; omega)
theorem mem_cuts {c : List Int} : c ∈ cuts n ps ↔ ∃ l ∈ lots n, bothHang n ps l = true ∧ (c = rowOf ps l ∨ c = rowOf ps (restOf n l)) := by
  unfold cuts cutsU
  rw [List.mem_mergeSort, List.mem_flatMap]
  constructor
  · rintro ⟨l, hl, hc⟩
    obtain ⟨h1, h2⟩ := List.mem_filter.mp hl
    exact ⟨l, h1, h2, by simpa using hc⟩
  · rintro ⟨l, h1, h2, h3⟩
    exact ⟨l, List.mem_filter.mpr ⟨h1, h2⟩, by simpa using h3⟩
end

end VL

/-! Y14: nearest cut rows to half of the signs are what parts turnings alike by cuts. No program in sight. -/
namespace VL
section
variable {n : Nat} {ps : List (Nat × Nat)}
def diffZ (x a : List Int) : List Int := List.zipWith (fun p q => p - q) x a
def addZ (k c : List Int) : List Int := List.zipWith (fun p q => p + q) k c
def tight (s k c : List Int) : Bool := decide (dotZ (restZ s k) c = 2 * (c.map absI).sum)
def nextK (n : Nat) (ps : List (Nat × Nat)) (s k : List Int) : List (List Int) := ((cuts n ps).filter (tight s k)).map fun c => addZ k c
theorem absI_ge (i : Int) : i ≤ absI i ∧ -i ≤ absI i := by unfold absI; split <;> omega
theorem tight_le : ∀ (u c : List Int), (∀ x ∈ u, x = 2 ∨ x = -2) → u.length = c.length → (List.zipWith (fun x y => x * y) u c).sum ≤ 2 * (c.map absI).sum
  | [], [], _, _ => by simp
  | [], _ :: _, _, h => by cases h
  | _ :: _, [], _, h => by cases h
  | x :: u, y :: c, hu, hl => by
    have ih := tight_le u c (fun z hz => hu z (.tail _ hz)) (by simpa using hl)
    have h1 := absI_ge y
    rw [List.zipWith_cons_cons, List.sum_cons, List.map_cons, List.sum_cons]
    rcases hu x (.head _) with rfl | rfl <;> omega
theorem tight_iff : ∀ (u c : List Int), (∀ x ∈ u, x = 2 ∨ x = -2) → u.length = c.length → ((List.zipWith (fun x y => x * y) u c).sum = 2 * (c.map absI).sum ↔ ∀ r, r < c.length → u.getD r 0 * c.getD r 0 = 2 * absI (c.getD r 0))
  | [], [], _, _ => by simp
  | [], _ :: _, _, h => by cases h
  | _ :: _, [], _, h => by cases h
  | x :: u, y :: c, hu, hl => by
    have ih := tight_iff u c (fun z hz => hu z (.tail _ hz)) (by simpa using hl)
    have le := tight_le u c (fun z hz => hu z (.tail _ hz)) (by simpa using hl)
    have h1 := absI_ge y
    rw [List.zipWith_cons_cons, List.sum_cons, List.map_cons, List.sum_cons]
    have hxy : x * y ≤ 2 * absI y := by rcases hu x (.head _) with rfl | rfl <;> omega
    constructor
    · intro e r hr
      cases r with
      | zero => simp only [List.getD_cons_zero]; omega
      | succ r =>
        simp only [List.getD_cons_succ]
        exact ih.mp (by omega) r (by simpa using hr)
    · intro h
      have h0 := h 0 (by simp)
      simp only [List.getD_cons_zero] at h0
      have := ih.mpr fun r hr => by
        have := h (r + 1) (by simpa using hr)
        simpa only [List.getD_cons_succ] using this
      omega
theorem diff_at {x a : List Int} {m r : Nat} (hx : x.length = m) (ha : a.length = m) (hr : r < m) : (diffZ x a).getD r 0 = x.getD r 0 - a.getD r 0 := zipW_at (by omega) (by omega)
theorem diff_len {x a : List Int} {m : Nat} (hx : x.length = m) (ha : a.length = m) : (diffZ x a).length = m := by unfold diffZ; rw [List.length_zipWith]; omega
theorem add_at {x a : List Int} {m r : Nat} (hx : x.length = m) (ha : a.length = m) (hr : r < m) : (addZ x a).getD r 0 = x.getD r 0 + a.getD r 0 := zipW_at (by omega) (by omega)
theorem add_len {x a : List Int} {m : Nat} (hx : x.length = m) (ha : a.length = m) : (addZ x a).length = m := by unfold addZ; rw [List.length_zipWith]; omega
theorem rest_at {a x : List Int} {m r : Nat} (ha : a.length = m) (hx : x.length = m) (hr : r < m) : (restZ (sgn a) (diffZ x a)).getD r 0 = 2 * (1 - 2 * x.getD r 0) := by
  unfold restZ
  rw [zipW_at (by rw [sgn_len]; omega) (by rw [diff_len hx ha]; exact hr), diff_at hx ha hr, sgn_getD (by omega)]
  omega
theorem rest_len {a x : List Int} {m : Nat} (ha : a.length = m) (hx : x.length = m) : (restZ (sgn a) (diffZ x a)).length = m := by
  unfold restZ
  rw [List.length_zipWith, sgn_len, diff_len hx ha]; omega
theorem rest_two {a x : List Int} {m : Nat} (ha : a.length = m) (hx : isTurn m x) : ∀ z ∈ restZ (sgn a) (diffZ x a), z = 2 ∨ z = -2 := fun z hz => by
  obtain ⟨r, hr, e⟩ := List.mem_iff_getElem.mp hz
  have hl := rest_len ha hx.1
  have h1 := rest_at ha hx.1 (show r < m by omega)
  rw [List.getD_eq_getElem?_getD, List.getElem?_eq_getElem hr, Option.getD_some, e] at h1
  have := turn_at hx (show r < m by omega)
  omega
theorem tight_at {a x c : List Int} {m : Nat} (ha : a.length = m) (hx : isTurn m x) (hcl : c.length = m) : tight (sgn a) (diffZ x a) c = true ↔ ∀ r, r < m → 2 * (1 - 2 * x.getD r 0) * c.getD r 0 = 2 * absI (c.getD r 0) := by
  unfold tight dotZ
  rw [decide_eq_true_iff, tight_iff _ _ (rest_two ha hx) (by rw [rest_len ha hx.1, hcl]), hcl]
  exact forall_congr' fun r => forall_congr' fun hr => by rw [rest_at ha hx.1 hr]
theorem cut_len {c : List Int} (h : c ∈ cuts n ps) : c.length = ps.length := by
  obtain ⟨l, _, _, rfl | rfl⟩ := mem_cuts.mp h <;> exact rowOf_len _ _
theorem cut_row {c : List Int} (h : c ∈ cuts n ps) : ∃ l, c = rowOf ps l := by
  obtain ⟨l, _, _, rfl | rfl⟩ := mem_cuts.mp h <;> exact ⟨_, rfl⟩
theorem inI_01 (c : Nat) (l : List Nat) : inI c l = 0 ∨ inI c l = 1 := by unfold inI; split <;> omega
theorem rw_small (l : List Nat) (r : Nat) : rw_ ps l r = 0 ∨ rw_ ps l r = 1 ∨ rw_ ps l r = -1 := by
  unfold rw_
  rcases inI_01 (ps.getD r (0, 0)).1 l with a | a <;> rcases inI_01 (ps.getD r (0, 0)).2 l with b | b <;> rw [a, b] <;> decide
/-- a tight cut changes a turning to a turning -/
theorem tight_turn {a x : List Int} (ha : a.length = ps.length) (hx : isTurn ps.length x) {c : List Int} (hc : c ∈ cuts n ps) (ht : tight (sgn a) (diffZ x a) c = true) :
    isTurn ps.length (addZ x c) ∧ addZ (diffZ x a) c = diffZ (addZ x c) a ∧ ∃ h, HD ps x (addZ x c) h := by
  have hcl := cut_len hc
  obtain ⟨l, rfl⟩ := cut_row hc
  have t := (tight_at ha hx hcl).mp ht
  have key : ∀ r, r < ps.length → (addZ x (rowOf ps l)).getD r 0 = x.getD r 0 + rw_ ps l r ∧ ((addZ x (rowOf ps l)).getD r 0 = 0 ∨ (addZ x (rowOf ps l)).getD r 0 = 1) := fun r hr => by
    have h1 := add_at hx.1 hcl hr
    rw [rowOf_at hr] at h1
    refine ⟨h1, ?_⟩
    have h2 := t r hr
    rw [rowOf_at hr] at h2
    have h3 := rw_small (ps := ps) l r
    have h4 := turn_at hx hr
    rcases h3 with z | z | z <;> rw [z] at h1 h2 <;> rcases h4 with w | w <;> rw [w] at h1 h2 <;> simp [absI] at h2 <;> omega
  refine ⟨⟨add_len hx.1 hcl, fun z hz => ?_⟩, ?_, ⟨fun c => - inI c l, fun r hr => ?_⟩⟩
  · obtain ⟨r, hr, e⟩ := List.mem_iff_getElem.mp hz
    have hl := add_len hx.1 hcl
    have := (key r (by omega)).2
    rw [List.getD_eq_getElem?_getD, List.getElem?_eq_getElem hr, Option.getD_some, e] at this
    exact this
  · refine turn_ext (add_len (diff_len hx.1 ha) hcl) (diff_len (add_len hx.1 hcl) ha) fun r hr => ?_
    rw [add_at (diff_len hx.1 ha) hcl hr, diff_at hx.1 ha hr, diff_at (add_len hx.1 hcl) ha hr, add_at hx.1 hcl hr]
    omega
  · have e : rw_ ps l r = inI (ps.getD r (0, 0)).1 l - inI (ps.getD r (0, 0)).2 l := rfl
    have := (key r hr).1
    dsimp only
    omega
def UK (m : Nat) (a : List Int) : List (List Int) := (turns m).map fun x => diffZ x a
theorem nextK_U {a : List Int} (ha : a.length = ps.length) : ∀ k ∈ UK ps.length a, ∀ u ∈ nextK n ps (sgn a) k, u ∈ UK ps.length a := fun k hk u hu => by
  obtain ⟨x, hx, rfl⟩ := List.mem_map.mp hk
  obtain ⟨c, hc, rfl⟩ := List.mem_map.mp hu
  obtain ⟨h1, h2⟩ := List.mem_filter.mp hc
  obtain ⟨t1, t2, _⟩ := tight_turn ha (mem_turns.mp hx) h1 h2
  rw [t2]
  exact List.mem_map.mpr ⟨_, mem_turns.mpr t1, rfl⟩
theorem diff_self {a : List Int} : diffZ a a = List.replicate a.length 0 := by
  refine turn_ext (m := a.length) (diff_len rfl rfl) (List.length_replicate) fun r hr => ?_
  rw [diff_at rfl rfl hr, List.getD_eq_getElem?_getD (l := List.replicate _ _), List.getElem?_replicate, if_pos hr]
  simp
theorem rest_inI {l : List Nat} {c : Nat} (hc : c < n) : inI c (restOf n l) = 1 - inI c l := by
  by_cases h : c ∈ l
  · rw [inI_in h, inI_out fun z => (mem_restOf.mp z).2 h]; rfl
  · rw [inI_out h, inI_in (mem_restOf.mpr ⟨hc, h⟩)]; rfl
theorem near_iff (F : Fm n ps) (hc : Conn n ps) {a k : List Int} (ha : isTurn ps.length a) : Reach (nextK n ps (sgn a)) (List.replicate ps.length 0) k ↔ ∃ x, isTurn ps.length x ∧ (∃ h, HD ps a x h) ∧ k = diffZ x a := by
  constructor
  · intro r
    induction r with
    | refl => exact ⟨a, ha, ⟨_, .refl a⟩, by rw [diff_self, ha.1]⟩
    | step _ hy ih =>
      obtain ⟨x, t, ⟨h, hd⟩, rfl⟩ := ih
      obtain ⟨c, hc', rfl⟩ := List.mem_map.mp hy
      obtain ⟨h1, h2⟩ := List.mem_filter.mp hc'
      obtain ⟨t1, t2, k, hk⟩ := tight_turn ha.1 t h1 h2
      exact ⟨_, t1, ⟨_, hd.trans hk⟩, t2⟩
  · rintro ⟨x, hx, ⟨h, hd⟩, rfl⟩
    rw [← ha.1, ← diff_self]
    refine reach_gen (fun k => mu ps.length (diffZ x a) k) (diffZ x a) (fun k => ∃ y, isTurn ps.length y ∧ (∃ h, HD ps y x h) ∧ k = diffZ y a) (fun k ⟨y, hy, ⟨h, hd⟩, ek⟩ ne => ?_) _ _ (Nat.lt_succ_self _) ⟨a, ha, ⟨h, hd⟩, rfl⟩
    subst ek
    have ne' : y ≠ x := fun z => ne (by rw [z])
    obtain ⟨l, σ, hl, hln, hnd, c1, c2, hσ, hrow, r0, hr0, hn⟩ := bond_step F hc hy hx hd ne'
    obtain ⟨hk', hm⟩ := flip_near hy hx hd hσ hrow hr0 hn
    have hbh : bothHang n ps l = true := by
      unfold bothHang
      rw [hangs_of_conn hln hnd c1, hangs_of_conn (l := restOf n l) (fun c h => (mem_restOf.mp h).1) (List.nodup_range.filter _) c2]; rfl
    -- the cut's row, turned to go with x - y
    obtain ⟨c, hcm, hcr⟩ : ∃ c, c ∈ cuts n ps ∧ ∀ r, r < ps.length → c.getD r 0 = σ * rw_ ps l r := by
      rcases hσ with rfl | rfl
      · exact ⟨_, mem_cuts.mpr ⟨l, hl, hbh, .inl rfl⟩, fun r hr => by rw [rowOf_at hr]; omega⟩
      · refine ⟨_, mem_cuts.mpr ⟨l, hl, hbh, .inr rfl⟩, fun r hr => ?_⟩
        have hp := F.lt _ (road_in hr)
        rw [rowOf_at hr]
        unfold rw_
        rw [rest_inI hp.1, rest_inI hp.2]
        omega
    have hcl := cut_len hcm
    have hflip : flipZ y (rowOf ps l) = addZ y c := by
      refine turn_ext (flip_turn hy l).1 (add_len hy.1 hcl) fun r hr => ?_
      rw [flip_at hy.1 hr, add_at hy.1 hcl hr, hcr r hr]
      have t1 := turn_at hy hr
      have t2 := turn_at hx hr
      by_cases z : rw_ ps l r = 0
      · rw [if_neg (fun w => w z), z]; omega
      · rw [if_pos z]
        have := (hrow r hr).resolve_left z
        rcases hσ with rfl | rfl <;> omega
    have htight : tight (sgn a) (diffZ y a) c = true := by
      rw [tight_at ha.1 hy hcl]
      intro r hr
      rw [hcr r hr]
      have t1 := turn_at hy hr
      have t2 := turn_at hx hr
      have t3 := rw_small (ps := ps) l r
      rcases hrow r hr with z | z
      · rw [z]; rcases hσ with rfl | rfl <;> simp [absI]
      · rw [z]
        rcases t1 with w | w <;> rcases t2 with v | v <;> rw [w, v] <;> simp [absI]
    obtain ⟨q1, q2, _⟩ := tight_turn ha.1 hy hcm htight
    refine ⟨addZ (diffZ y a) c, List.mem_map.mpr ⟨c, List.mem_filter.mpr ⟨hcm, htight⟩, rfl⟩, ⟨addZ y c, q1, hflip ▸ hk', q2⟩, ?_⟩
    rw [hflip] at hm
    rw [q2]
    have hmu : ∀ z : List Int, z.length = ps.length → mu ps.length (diffZ x a) (diffZ z a) = mu ps.length x z := fun z hz => by
      unfold mu
      congr 1
      refine List.map_congr_left fun r hr => ?_
      have hr' := List.mem_range.mp hr
      rw [diff_at hx.1 ha.1 hr', diff_at hz ha.1 hr']
      congr 1
      omega
    rw [hmu _ q1.1, hmu _ hy.1]
    exact hm
end
end VL

/-! Y15: nearest cut rows: the search. -/
namespace VL
open PySem PySem.Spec PyProof.Rows L2

section
variable {n : Nat} {ps : List (Nat × Nat)}
theorem abs_ev (i : Int) : absD [.int i] = some (.int (absI i)) := rfl
theorem gt_int (a b : Int) : gtD (.int a) (.int b) = some (.bool (decide (a > b))) := rfl
def yD (a : List Int) : D := .tuple [mD (sgn a), .int 2]
def zeroR (m : Nat) : List Int := List.replicate m 0
theorem sml_diff {x a : List Int} {m : Nat} (hx : isTurn m x) (ha : isTurn m a) : sml (diffZ x a) := fun z hz => by
  obtain ⟨r, hr, e⟩ := List.mem_iff_getElem.mp hz
  have hl := diff_len hx.1 ha.1
  have h1 := diff_at hx.1 ha.1 (show r < m by omega)
  rw [List.getD_eq_getElem?_getD, List.getElem?_eq_getElem hr, Option.getD_some, e] at h1
  have := turn_at hx (show r < m by omega)
  have := turn_at ha (show r < m by omega)
  omega
theorem sml_row (l : List Nat) : sml (rowOf ps l) := fun z hz => by
  unfold rowOf at hz
  obtain ⟨p, _, rfl⟩ := List.mem_map.mp hz
  have := inI_01 p.1 l
  have := inI_01 p.2 l
  omega
theorem sml_cut {c : List Int} (h : c ∈ cuts n ps) : sml c := by
  obtain ⟨l, rfl⟩ := cut_row h
  exact sml_row l
theorem whF_off {c : Fx Bool} {b : Fx Flow} {n : Nat} {δ : List Slot} (h : c δ = mp false) : whF c b (n + 1) δ = mp (.nx δ) := by
  unfold whF
  rw [h, mb_mp]; rfl
theorem mulL_ok {xs : List D} {k : Nat} (h : xs.length * k ≤ 65536) (hk : k ≤ 65536) : mulD (.list xs) (.int (k : Nat)) = some (.list (List.replicate k xs).flatten) := by
  have hs := small16 h
  unfold mulD
  dsimp only
  rw [if_pos ⟨by omega, by omega, by rw [Int.toNat_natCast]; exact hs⟩, Int.toNat_natCast]
theorem mulT_ok {xs : List D} {k : Nat} (h0 : xs ≠ []) (h1 : 1 ≤ k) (h2 : k ≤ 1000) (h3 : xs.length ≤ 1000) : mulTD (.tuple xs) (.int (k : Nat)) = some (.tuple (List.replicate k xs).flatten) := by
  unfold mulTD
  dsimp only
  rw [if_pos ⟨h0, by omega, by omega, h3⟩, Int.toNat_natCast]
/-! ### the first one -/
theorem sp_cut_near_paper (F : Fm n ps) {a : List Int} (ha : isTurn ps.length a) : ∃ d, sem_cut_near_paper [fD n ps, yD a, mD (zeroR ps.length)] = some (.tuple [.str (Str.ofString "flow"), d]) := by
  have m7 := F.m7
  have hz : zeroR ps.length = diffZ a a := by rw [diff_self, ha.1]; rfl
  have er : sem_rest_row [yD a, mD (zeroR ps.length)] = some (mD (restZ (sgn a) (diffZ a a))) := by
    rw [hz]
    exact sp_rest_row (by rw [sgn_len, ha.1]; omega) (by rw [sgn_len, diff_len rfl rfl]) (sml_diff ha ha)
  have rl : (restZ (sgn a) (diffZ a a)).length = ps.length := rest_len ha.1 ha.1
  have r2 := rest_two ha.1 ha
  let u := restZ (sgn a) (diffZ a a)
  have ul : u.length ≤ 65536 := by show (restZ (sgn a) (diffZ a a)).length ≤ _; omega
  have e1 : f2 mulD (fc lstD (fCons (fun _ => mp (.int 0)) fNil)) (fc lenD (fCons (gw 3) fNil)) [.val (fD n ps), .val (yD a), .val (mD (zeroR ps.length)), .val (.list (u.map PyData.int)), .val (.int 2), .nil, .nil, .nil, .nil, .nil, .nil, .nil, .nil, .nil, .nil, .nil, .nil]
      = mp (.list (List.replicate ps.length [PyData.int 0]).flatten) := by
    refine ev2 (evc (evCons rfl evNil) (lst_ok (small16 (by show 1 ≤ 65536; decide)))) (evc (evCons rfl evNil) (len_l _)) ?_
    rw [List.length_map, rl]
    exact mulL_ok (by show 1 * _ ≤ _; omega) (by omega)
  have e2 : lcF (fEn (gv 3)) (gTp 2 (gAC (gSet 5) (gAC (gSet 14) gAN))) (fB (f2 gtD (fc absD (fCons (gw 14) fNil)) (gw 4))) (gv 5) [5, 14] [.val (fD n ps), .val (yD a), .val (mD (zeroR ps.length)), .val (.list (u.map PyData.int)), .val (.int 2), .nil, .nil, .nil, .nil, .nil, .nil, .nil, .nil, .nil, .nil, .nil, .nil]
      = mp (.list []) := by
    have := evLc (fi := fEn (gv 3)) (gt := gTp 2 (gAC (gSet 5) (gAC (gSet 14) gAN))) (t := fB (f2 gtD (fc absD (fCons (gw 14) fNil)) (gw 4))) (e := gv 5) (vs := [5, 14]) (δ := [.val (fD n ps), .val (yD a), .val (mD (zeroR ps.length)), .val (.list (u.map PyData.int)), .val (.int 2), .nil, .nil, .nil, .nil, .nil, .nil, .nil, .nil, .nil, .nil, .nil, .nil])
      (enc := fun q : Int × Nat => PyData.tuple [.int (q.2 : Nat), .int q.1]) (zs := u.zipIdx) (fun _ => false) (fun q => PyData.int (q.2 : Nat)) ((evEn rfl (seq_l (by rw [List.length_map]; exact small16 ul))).trans (by rw [enum_map])) rfl fun q hq => ⟨_, rfl, by
        refine evB (ev2 (evc (evCons rfl evNil) (abs_ev q.1)) rfl ?_)
        rw [gt_int]
        have hq' := List.mem_of_getElem? (zip_lt hq).2
        rcases r2 _ hq' with z | z <;> rw [z] <;> rfl, fun h => by cases h⟩
    rw [this]
    congr 2
    rw [List.filter_eq_nil_iff.mpr (fun _ _ => by decide)]; rfl
  exact ⟨_, evRun (evSeq (evPar (k1 := .v) (k2 := .v) (a := .list (u.map PyData.int)) (b := .int 2) (evc (evCons (evCall (evCons rfl (evCons rfl evNil)) rfl er) evNil) rfl) (ev2 rfl rfl (item_nat (i := 1) rfl))) (evSeq (evPar (k1 := .v) (k2 := .v) e1 e2) (evSeq (δ' := [.val (fD n ps), .val (yD a), .val (mD (zeroR ps.length)), .val (.list (u.map PyData.int)), .val (.int 2), .nil, .val (.list (List.replicate ps.length [PyData.int 0]).flatten), .val (.list []), .nil, .nil, .nil, .nil, .nil, .nil, .nil, .nil, .nil]) (by
      exact whF_off (n := 0) (evB (ev2 rfl (evc evNil (lst_ok (Nat.zero_le _))) (ne_nil _)))) (evRet (evc (evCons rfl (evCons (evc (evCons rfl evNil) rfl) evNil)) (tup_ok (small16 (by show 2 ≤ 65536; decide))))))))⟩
theorem flat_one (m : Nat) : (List.replicate m [PyData.int 0]).flatten = (zeroR m).map PyData.int := by
  induction m with
  | zero => rfl
  | succ m ih =>
    rw [List.replicate_succ, List.flatten_cons, ih]; rfl
theorem sp_nearest_cut_row (F : Fm n ps) (m1 : 1 ≤ ps.length) {a : List Int} (ha : isTurn ps.length a) : sem_nearest_cut_row [fD n ps, yD a] = some (mD (zeroR ps.length)) := by
  have m7 := F.m7
  obtain ⟨d, ed⟩ := sp_cut_near_paper F ha
  have e0 : f2 mulTD (fc tupD (fCons (fun _ => mp (.int 0)) fNil)) (fc lenD (fCons (f2 itemD (gw 0) (fun _ => mp (.int 1))) fNil)) [.val (fD n ps), .val (yD a), .nil, .nil, .nil, .nil, .nil, .nil, .nil, .nil] = mp (mD (zeroR ps.length)) := by
    refine ev2 (evc (evCons rfl evNil) (tup_ok (small16 (by show 1 ≤ 65536; decide)))) (evc (evCons (ev2 rfl rfl (fD1 n ps)) evNil) (len_t _)) ?_
    rw [List.length_map]
    rw [mulT_ok (by simp) m1 (by omega) (by show 1 ≤ 1000; decide), flat_one]; rfl
  refine evRun (evSeq (evSet e0) (evSeq (evSet (evCall (evCons rfl (evCons rfl (evCons rfl evNil))) rfl ed)) (evSeq (δ' := [.val (fD n ps), .val (yD a), .val (mD (zeroR ps.length)), .val (.tuple [.str (Str.ofString "flow"), d]), .nil, .nil, .nil, .nil, .nil, .nil]) ?_ (evRet rfl))))
  exact whF_off (n := 0) (evB (ev2 (ev2 rfl rfl (item_nat (i := 0) rfl)) rfl (by kernel_rfl)))
/-! ### the search -/
def bNin : Fx Flow := (fSeq (sSet 9 (fc tupleD (fCons (lcF (fZpS (fCons (gv 6) (fCons (gv 8) fNil))) (gTp 2 (gAC (gSet 11) (gAC (gSet 12) gAN))) (fun _ => mp true) (f2 addD (gw 11) (gw 12)) [11, 12]) fNil))) (fSeq (sSet 10 (fc sumD (fCons (lcF (fZpS (fCons (gv 7) (fCons (gv 8) fNil))) (gTp 2 (gAC (gSet 11) (gAC (gSet 12) gAN))) (fun _ => mp true) (f2 mulD (gw 11) (gw 12)) [11, 12]) fNil))) (fIf (fAnd (fB (f2 eqD (gw 10) (f2 mulD (f2 itemD (gw 1) (fun _ => mp (.int 1))) (fc sumD (fCons (lcF (fSq (gv 8)) (gSet 13) (fun _ => mp true) (fc absD (fCons (gw 13) fNil)) [13]) fNil))))) (fB (f2 notInD (gw 9) (gw 4)))) (fSeq (sPut 4 (fun _ => mp (.bool true)) (gv 9)) (sApp 5 (gv 9))) (fun δ => mp (.nx δ)))))
def bN : Fx Flow := (fSeq (sPopL 6 5) (fSeq (sSet 7 (fCall 2 sem_rest_row (fCons (gv 1) (fCons (gv 6) fNil)))) (fSeq (sFor (fSq (gv 3)) (gSet 8) bNin) (fIf (fB (f2 gtD (fc lenTD (fCons (gw 4) fNil)) (fun _ => mp (.int 2000)))) (fun _ => m0) (fun δ => mp (.nx δ))))))
theorem b_near_eq : b_nearest_cut_rows = fSeq (sPar 2 3 .v .v (fCall 2 sem_nearest_cut_row (fCons (gv 0) (fCons (gv 1) fNil))) (fCall 1 sem_least_cut_parts (fCons (gv 0) fNil))) (fSeq (sPar 4 5 .o .o (fDiT (gv 2) (fun _ => mp (.bool true))) (fc lstD (fCons (gv 2) fNil))) (fSeq (whF (fB (f2 neD (gw 5) (fc lstD fNil))) bN fuel_nearest_cut_rows) (sRet (f1 sdTD (gw 4))))) := rfl
/-- the state within -/
def stN (n : Nat) (ps : List (Nat × Nat)) (a : List Int) (s : List (List Int) × List (List Int)) (x6 x7 x8 x9 x10 : Slot) : List Slot :=
  [.val (fD n ps), .val (yD a), .val (mD (zeroR ps.length)), .val (.tuple ((cuts n ps).map mD)), .own (.dict (fT s.1)), .own (.list (s.2.map mD)), x6, x7, x8, x9, x10, .nil, .nil, .nil]
theorem bk_len {a : List Int} {s : List (List Int) × List (List Int)} {z : List Int} {nx : List Int → List (List Int)} (m7 : ps.length ≤ 7) (b : Bi nx (UK ps.length a) z s) : s.1.length ≤ 128 ∧ s.2.length ≤ 128 := by
  have h := turns_128 m7
  have h1 := nodup_len b.nd b.inU
  have h2 := nodup_len b.nl b.sub
  unfold UK at h1
  rw [List.length_map] at h1
  omega
theorem bk_ne {a : List Int} {s : List (List Int) × List (List Int)} {z : List Int} {nx : List Int → List (List Int)} (b : Bi nx (UK ps.length a) z s) : s.1 ≠ [] := fun w => by
  have := b.at0
  rw [w] at this
  cases this
theorem near_in (F : Fm n ps) {a h : List Int} (ha : isTurn ps.length a) (hh : h ∈ UK ps.length a) (hr : Reach (nextK n ps (sgn a)) (zeroR ps.length) h) {s : List (List Int) × List (List Int)} (b : Bi (nextK n ps (sgn a)) (UK ps.length a) (zeroR ps.length) s) {c : List Int} (hc : c ∈ cuts n ps) (x9 x10 : Slot) :
    ∃ y9 y10, bNin (stN n ps a s (.val (mD h)) (.val (mD (restZ (sgn a) h))) (.val (mD c)) x9 x10) = mp (.nx (stN n ps a (if tight (sgn a) h c = true then addNew s (addZ h c) else s) (.val (mD h)) (.val (mD (restZ (sgn a) h))) (.val (mD c)) y9 y10)) ∧
      Bi (nextK n ps (sgn a)) (UK ps.length a) (zeroR ps.length) (if tight (sgn a) h c = true then addNew s (addZ h c) else s) := by
  obtain ⟨x, hx, rfl⟩ := List.mem_map.mp hh
  have tx := mem_turns.mp hx
  have m7 := F.m7
  have hcl := cut_len hc
  have hdl := diff_len tx.1 ha.1
  have hrl := rest_len ha.1 tx.1
  have hsc := sml_cut hc
  have e9 : fc tupleD (fCons (lcF (fZpS (fCons (gv 6) (fCons (gv 8) fNil))) (gTp 2 (gAC (gSet 11) (gAC (gSet 12) gAN))) (fun _ => mp true) (f2 addD (gw 11) (gw 12)) [11, 12]) fNil) (stN n ps a s (.val (mD (diffZ x a))) (.val (mD (restZ (sgn a) (diffZ x a)))) (.val (mD c)) x9 x10) = mp (mD (addZ (diffZ x a) c)) := by
    refine evc (evCons (ev_zip2 (fun p q => .int (p + q)) (evCons rfl (evCons rfl evNil)) (by omega) (by omega) rfl fun p q => ev2 rfl rfl rfl) evNil) ?_
    rw [tup_l (by rw [List.length_zipWith]; omega), zipW_int]; rfl
  have e10 : fc sumD (fCons (lcF (fZpS (fCons (gv 7) (fCons (gv 8) fNil))) (gTp 2 (gAC (gSet 11) (gAC (gSet 12) gAN))) (fun _ => mp true) (f2 mulD (gw 11) (gw 12)) [11, 12]) fNil) (stN n ps a s (.val (mD (diffZ x a))) (.val (mD (restZ (sgn a) (diffZ x a)))) (.val (mD c)) (.val (mD (addZ (diffZ x a) c))) x10) = mp (.int (dotZ (restZ (sgn a) (diffZ x a)) c)) := by
    refine evc (evCons (ev_zip2' (fun p q => .int (p * q)) (evCons rfl (evCons rfl evNil)) (by omega) (by omega) rfl fun p q _ hq => ?_) evNil) ?_
    · have := hsc q hq
      exact ev2 rfl rfl (mul_ok (by omega) (by omega))
    · rw [zipW_int, sum_l]; rfl
  have et : fB (f2 eqD (gw 10) (f2 mulD (f2 itemD (gw 1) (fun _ => mp (.int 1))) (fc sumD (fCons (lcF (fSq (gv 8)) (gSet 13) (fun _ => mp true) (fc absD (fCons (gw 13) fNil)) [13]) fNil)))) (stN n ps a s (.val (mD (diffZ x a))) (.val (mD (restZ (sgn a) (diffZ x a)))) (.val (mD c)) (.val (mD (addZ (diffZ x a) c))) (.val (.int (dotZ (restZ (sgn a) (diffZ x a)) c)))) = mp (tight (sgn a) (diffZ x a) c) := by
    refine evB (ev2 rfl (ev2 (ev2 rfl rfl (item_nat (i := 1) rfl)) (evc (evCons (ev_lc1 (fun q => .int (absI q)) rfl (by omega) rfl fun q _ => evc (evCons rfl evNil) (abs_ev q)) evNil) ?_) (mul_2 _)) (eq_int _ _))
    have e : (c.map fun q => PyData.int (absI q)) = (c.map absI).map PyData.int := by rw [List.map_map]; rfl
    rw [e, sum_l]
  have hl2 := bk_len m7 b
  have hz := small16 (show 129 ≤ 65536 by decide)
  unfold bNin
  by_cases ht : tight (sgn a) (diffZ x a) c = true
  · rw [if_pos ht]
    rw [ht] at et
    have hnx : addZ (diffZ x a) c ∈ nextK n ps (sgn a) (diffZ x a) := List.mem_map.mpr ⟨c, List.mem_filter.mpr ⟨hc, ht⟩, rfl⟩
    have b' := b.add (nextK_U ha.1 _ hh _ hnx) (.step hr hnx)
    by_cases hm : addZ (diffZ x a) c ∈ s.1
    · refine ⟨.val (mD (addZ (diffZ x a) c)), .val (.int (dotZ (restZ (sgn a) (diffZ x a)) c)), evSeq (evSet e9) (evSeq (evSet e10) ?_), b'⟩
      unfold addNew
      rw [if_pos hm]
      exact evIfF (evAnd et fun _ => evB (ev2 rfl rfl ((notin_fT _ (bk_ne b)).trans (by rw [decide_eq_true hm]; rfl)))) rfl
    · refine ⟨.val (mD (addZ (diffZ x a) c)), .val (.int (dotZ (restZ (sgn a) (diffZ x a)) c)), evSeq (evSet e9) (evSeq (evSet e10) ?_), b'⟩
      unfold addNew
      rw [if_neg hm]
      exact evIfT (evAnd et fun _ => evB (ev2 rfl rfl ((notin_fT _ (bk_ne b)).trans (by rw [decide_eq_false hm]; rfl)))) (evSeq (evPut rfl rfl (putD_fT rfl hm (bk_ne b) (by omega))) (evApp rfl (app_at rfl (by omega))))
  · have ht' : tight (sgn a) (diffZ x a) c = false := by simpa using ht
    rw [if_neg ht]
    rw [ht'] at et
    exact ⟨.val (mD (addZ (diffZ x a) c)), .val (.int (dotZ (restZ (sgn a) (diffZ x a)) c)), evSeq (evSet e9) (evSeq (evSet e10) (evIfF (evAnd (c2 := false) et fun h => by cases h) rfl)), b⟩
end

end VL

/-! Y16: nearest cut rows: what is handed back. -/
namespace VL
open PySem PySem.Spec PyProof.Rows L2
section
variable {n : Nat} {ps : List (Nat × Nat)}
theorem cuts_len (F : Fm n ps) : (cuts n ps).length ≤ 32 := by
  unfold cuts
  rw [List.length_mergeSort]
  exact (sp_least_cut_parts F).2
theorem near_for (F : Fm n ps) {a h : List Int} (ha : isTurn ps.length a) (hh : h ∈ UK ps.length a) (hr : Reach (nextK n ps (sgn a)) (zeroR ps.length) h) {s : List (List Int) × List (List Int)} (b : Bi (nextK n ps (sgn a)) (UK ps.length a) (zeroR ps.length) s) (x8 x9 x10 : Slot) :
    ∃ y8 y9 y10, sFor (fSq (gv 3)) (gSet 8) bNin (stN n ps a s (.val (mD h)) (.val (mD (restZ (sgn a) h))) x8 x9 x10) = mp (.nx (stN n ps a ((nextK n ps (sgn a) h).foldl addNew s) (.val (mD h)) (.val (mD (restZ (sgn a) h))) y8 y9 y10)) := by
  have hl := cuts_len F
  obtain ⟨δ', e1, e2⟩ := forF_pure (g := gSet 8) (b := bNin) (enc := mD) (σ := List (List Int) × List (List Int)) (rep := fun s δ => Bi (nextK n ps (sgn a)) (UK ps.length a) (zeroR ps.length) s ∧ ∃ y8 y9 y10, δ = stN n ps a s (.val (mD h)) (.val (mD (restZ (sgn a) h))) y8 y9 y10)
    (step := fun s c => if tight (sgn a) h c = true then addNew s (addZ h c) else s) (cuts n ps) (fun s c δ hc ⟨b, y8, y9, y10, e⟩ => by
      subst e
      obtain ⟨z9, z10, e3, b'⟩ := near_in F ha hh hr b hc y9 y10
      exact ⟨_, _, rfl, e3, b', _, _, _, rfl⟩) s _ ⟨b, x8, x9, x10, rfl⟩
  obtain ⟨_, y8, y9, y10, e⟩ := e2
  refine ⟨y8, y9, y10, evFor (evSq rfl (seq_t (by rw [List.length_map]; exact small16 (by omega)))) ?_⟩
  rw [e1, e, fold_if addNew (tight (sgn a) h) fun c => addZ h c]
  rfl
theorem near_step (F : Fm n ps) {a : List Int} (ha : isTurn ps.length a) {s : List (List Int) × List (List Int)} (b : Bi (nextK n ps (sgn a)) (UK ps.length a) (zeroR ps.length) s) (hc : bfsCond s = true) (x6 x7 x8 x9 x10 : Slot) :
    ∃ y6 y7 y8 y9 y10, bN (stN n ps a s x6 x7 x8 x9 x10) = mp (.nx (stN n ps a (bfsStep (nextK n ps (sgn a)) s) y6 y7 y8 y9 y10)) ∧ Bi (nextK n ps (sgn a)) (UK ps.length a) (zeroR ps.length) (bfsStep (nextK n ps (sgn a)) s) := by
  have hne : s.2 ≠ [] := fun z => by unfold bfsCond at hc; rw [z] at hc; cases hc
  obtain ⟨h, hl⟩ : ∃ h, s.2.getLast? = some h := ⟨_, List.getLast?_eq_some_getLast hne⟩
  have sp := getLast_split hl
  have hs : h ∈ s.1 := b.sub h (by rw [sp]; exact List.mem_append_right _ (.head _))
  have hU := b.inU h hs
  have hR := b.rch h hs
  have nl := b.nl
  rw [sp] at nl
  have nl' := List.nodup_append.mp nl
  have b0 : Bi (nextK n ps (sgn a)) (UK ps.length a) (zeroR ps.length) (s.1, s.2.dropLast) := ⟨b.nd, b.inU, nl'.1, fun x hx => b.sub x (by rw [sp]; exact List.mem_append_left _ hx), b.at0, b.rch⟩
  have b1 : Bi (nextK n ps (sgn a)) (UK ps.length a) (zeroR ps.length) ((nextK n ps (sgn a) h).foldl addNew (s.1, s.2.dropLast)) := b0.fold fun y hy => ⟨nextK_U ha.1 _ hU y hy, .step hR hy⟩
  have m7 := F.m7
  obtain ⟨x, hx, ex⟩ := List.mem_map.mp hU
  have tx := mem_turns.mp hx
  have er : sem_rest_row [yD a, mD h] = some (mD (restZ (sgn a) h)) := by
    rw [← ex]
    exact sp_rest_row (by rw [sgn_len, ha.1]; omega) (by rw [sgn_len, diff_len tx.1 ha.1, ha.1]) (sml_diff tx ha)
  obtain ⟨y8, y9, y10, ef⟩ := near_for F ha hU hR b0 x8 x9 x10
  have hlen2 := bk_len m7 b1
  refine ⟨.val (mD h), .val (mD (restZ (sgn a) h)), y8, y9, y10, ?_, ?_⟩
  · rw [bfsStep_eq hl]
    unfold bN
    refine evSeq (evPopL (popL_at (f := s.2) (t := h) rfl hl)) (evSeq (δ' := stN n ps a (s.1, s.2.dropLast) (.val (mD h)) (.val (mD (restZ (sgn a) h))) x8 x9 x10) (evSet (evCall (evCons rfl (evCons rfl evNil)) rfl er)) (evSeq ef ?_))
    refine evIfF (evB (ev2 (evc (evCons rfl evNil) (len_fT (bk_ne b1))) rfl ?_)) rfl
    show some (PyData.bool (decide ((((nextK n ps (sgn a) h).foldl addNew (s.1, s.2.dropLast)).1.length : Int) > 2000))) = _
    rw [decide_eq_false (by omega)]
  · rw [bfsStep_eq hl]; exact b1
theorem near_while (F : Fm n ps) (m1 : 1 ≤ ps.length) {a : List Int} (ha : isTurn ps.length a) {rows : List (List Int)} (nd : rows.Nodup) (hm : ∀ k, k ∈ rows ↔ Reach (nextK n ps (sgn a)) (zeroR ps.length) k) :
    sem_nearest_cut_rows [fD n ps, yD a] = some (.list ((rows.mergeSort leI).map mD)) := by
  have m7 := F.m7
  have h128 := turns_128 m7
  have hz : zeroR ps.length ∈ UK ps.length a := by
    refine List.mem_map.mpr ⟨a, mem_turns.mpr ha, ?_⟩
    rw [diff_self, ha.1]; rfl
  have hUl : (UK ps.length a).length ≤ 128 := by unfold UK; rw [List.length_map]; exact h128
  obtain ⟨f, er, fnd, fU, fm⟩ := bfs_run (next := nextK n ps (sgn a)) (U := UK ps.length a) (nextK_U ha.1) hz (k := fuel_nearest_cut_rows) (by show _ < 300; omega)
  have b : Bi (nextK n ps (sgn a)) (UK ps.length a) (zeroR ps.length) ([zeroR ps.length], [zeroR ps.length]) := ⟨nd1 _, fun x hx => by rw [List.mem_singleton] at hx; subst hx; exact hz, nd1 _, fun x hx => hx, .head _, fun x hx => by rw [List.mem_singleton] at hx; subst hx; exact .refl⟩
  obtain ⟨δ', e1, b1, x6, x7, x8, x9, x10, e2⟩ := whF_pure (c := fB (f2 neD (gw 5) (fc lstD fNil))) (b := bN) (rep := fun s δ => Bi (nextK n ps (sgn a)) (UK ps.length a) (zeroR ps.length) s ∧ ∃ x6 x7 x8 x9 x10, δ = stN n ps a s x6 x7 x8 x9 x10) bfsCond (bfsStep (nextK n ps (sgn a))) (fun s δ ⟨b, x6, x7, x8, x9, x10, e⟩ => by
    subst e
    refine ⟨evB (ev2 rfl (evc evNil (lst_ok (Nat.zero_le _))) ((ne_nil _).trans (by rw [isEmpty_map]; rfl))), fun hc => ?_⟩
    obtain ⟨y6, y7, y8, y9, y10, e3, b'⟩ := near_step F ha b hc x6 x7 x8 x9 x10
    exact ⟨_, e3, b', _, _, _, _, _, rfl⟩) _ ([zeroR ps.length], [zeroR ps.length]) (f, []) (stN n ps a ([zeroR ps.length], [zeroR ps.length]) .nil .nil .nil .nil .nil) ⟨b, _, _, _, _, _, rfl⟩ er
  subst e2
  have hf : f ≠ [] := fun z => by
    have := (fm (zeroR ps.length)).mpr .refl
    rw [z] at this; cases this
  have hfl := nodup_len fnd fU
  have hp : f.Perm rows := (List.perm_ext_iff_of_nodup fnd nd).mpr fun x => (fm x).trans (hm x).symm
  have hsort : f.mergeSort leI = rows.mergeSort leI := sort_to (hp.trans (List.mergeSort_perm _ _).symm) (List.pairwise_mergeSort leI_trans leI_total _)
  have e0 : sPar 2 3 .v .v (fCall 2 sem_nearest_cut_row (fCons (gv 0) (fCons (gv 1) fNil))) (fCall 1 sem_least_cut_parts (fCons (gv 0) fNil)) [.val (fD n ps), .val (yD a), .nil, .nil, .nil, .nil, .nil, .nil, .nil, .nil, .nil, .nil, .nil, .nil]
      = mp (.nx [.val (fD n ps), .val (yD a), .val (mD (zeroR ps.length)), .val (.tuple ((cuts n ps).map mD)), .nil, .nil, .nil, .nil, .nil, .nil, .nil, .nil, .nil, .nil]) :=
    evPar (k1 := .v) (k2 := .v) (evCall (evCons rfl (evCons rfl evNil)) rfl (sp_nearest_cut_row F m1 ha)) (evCall (evCons rfl evNil) rfl (sp_least_cut_parts F).1)
  have e3 : sPar 4 5 .o .o (fDiT (gv 2) (fun _ => mp (.bool true))) (fc lstD (fCons (gv 2) fNil)) [.val (fD n ps), .val (yD a), .val (mD (zeroR ps.length)), .val (.tuple ((cuts n ps).map mD)), .nil, .nil, .nil, .nil, .nil, .nil, .nil, .nil, .nil, .nil]
      = mp (.nx (stN n ps a ([zeroR ps.length], [zeroR ps.length]) .nil .nil .nil .nil .nil)) :=
    evPar (k1 := .o) (k2 := .o) (fDiT_ev rfl rfl) (evc (evCons rfl evNil) (lst_ok (small16 (by show 1 ≤ 65536; decide))))
  refine evRun ?_
  rw [b_near_eq]
  refine evSeq e0 (evSeq e3 (evSeq e1 (evRet (ev1 rfl ((sd_fT (f := f) hf (by have := small16 (show 128 ≤ 65536 by decide); omega)).trans ?_)))))
  rw [hsort]
end
end VL

/-! Y17: heights lap by lap. -/
namespace VL
open PySem PySem.Spec PyProof.Rows L2
abbrev Knw := List (Nat × Int)
def knwD (f : Knw) : List (D × D) := f.map fun x => (.int (x.1 : Nat), PyData.int x.2)
def keysK (f : Knw) : List Nat := f.map (·.1)
def valK : Knw → Nat → Int
  | [], _ => 0
  | x :: r, c => if x.1 = c then x.2 else valK r c
theorem look_knw : ∀ (f : Knw) (c : Nat), lookK (.inl (c : Int)) (knwD f) = if c ∈ keysK f then some (PyData.int (valK f c)) else none
  | [], c => by simp [knwD, keysK, lookK]
  | x :: r, c => by
    show (if keyOf (.int (x.1 : Nat)) = some (.inl (c : Int)) then some (PyData.int x.2) else lookK (.inl (c : Int)) (knwD r)) = _
    have ih := look_knw r c
    by_cases h : x.1 = c
    · subst h
      have hk : keyOf (.int (x.1 : Nat)) = some (.inl ((x.1 : Nat) : Int)) := rfl
      rw [if_pos hk, if_pos (by simp [keysK])]
      simp [valK]
    · have hk : ¬ keyOf (.int (x.1 : Nat)) = some (.inl (c : Int)) := fun z => by
        have z' : (some (Sum.inl ((x.1 : Nat) : Int)) : Option Key) = some (.inl (c : Int)) := z
        have := Sum.inl.inj (Option.some.inj z')
        omega
      rw [if_neg hk, ih]
      by_cases hc : c ∈ keysK r
      · rw [if_pos hc, if_pos (by show c ∈ x.1 :: keysK r; exact .tail _ hc)]
        simp [valK, h]
      · rw [if_neg hc, if_neg (by
          show ¬ c ∈ x.1 :: keysK r
          intro z
          rcases List.mem_cons.mp z with z | z
          · exact h z.symm
          · exact hc z)]
theorem lookD_knw (f : Knw) (c : Nat) (hf : f ≠ []) : lookD (knwD f) (.int (c : Nat)) = some (if c ∈ keysK f then some (PyData.int (valK f c)) else none) := by
  cases f with
  | nil => exact absurd rfl hf
  | cons x r => rw [← look_knw]; rfl
theorem in_knw (f : Knw) (c : Nat) (hf : f ≠ []) : inD (.int (c : Nat)) (.dict (knwD f)) = some (.bool (decide (c ∈ keysK f))) := by
  show (lookD (knwD f) (.int (c : Nat))).map (fun o => PyData.bool o.isSome) = _
  rw [lookD_knw f c hf]
  by_cases h : c ∈ keysK f <;> simp [h]
theorem notin_knw (f : Knw) (c : Nat) (hf : f ≠ []) : notInD (.int (c : Nat)) (.dict (knwD f)) = some (.bool (!decide (c ∈ keysK f))) := by
  unfold notInD; rw [in_knw f c hf]; rfl
theorem dget_knw (f : Knw) (c : Nat) (h : c ∈ keysK f) : dgetD (.dict (knwD f)) (.int (c : Nat)) = some (PyData.int (valK f c)) := by
  have hf : f ≠ [] := by
    intro z; subst z; cases h
  show (lookD (knwD f) (.int (c : Nat))).bind id = _
  rw [lookD_knw f c hf, if_pos h]
  rfl
theorem put_knw (f : Knw) (c : Nat) (p : Int) (h : c ∉ keysK f) : putE (.inl (c : Int)) (.int p) (knwD f) = knwD (f ++ [(c, p)]) := by
  have hn : ((knwD f).any fun e => decide (keyOf e.1 = some (.inl (c : Int)))) = false := by
    rw [List.any_eq_false]
    intro e he
    obtain ⟨x, hx, rfl⟩ := List.mem_map.mp he
    have : x.1 ≠ c := fun z => h (z ▸ List.mem_map_of_mem hx)
    simp [keyOf]
    omega
  unfold putE
  rw [hn, if_neg (by decide)]
  unfold knwD
  rw [List.map_append]
  rfl
theorem kHead_knw (f : Knw) : kHead (knwD f) = true := by
  cases f with
  | nil => rfl
  | cons x r => rfl

theorem putD_knw {δ : List Slot} {i : Nat} {f : Knw} {c : Nat} {p : Int} (h : δ[i]? = some (.own (.dict (knwD f)))) (hc : c ∉ keysK f) (hl : f.length < sizeLine) : putD i (.int (c : Nat)) (.int p) δ = some (δ.set i (.own (.dict (knwD (f ++ [(c, p)]))))) := by
  unfold putD
  rw [h]
  dsimp only
  rw [if_pos ⟨kHead_knw f, by unfold knwD; rw [List.length_map]; exact hl⟩, show keyOf (.int (c : Nat)) = some (.inl (c : Int)) from rfl, Option.map_some, put_knw f c p hc]
section
variable {n : Nat} {ps : List (Nat × Nat)}
/-- one road more -/
def stepK (s : Knw) (q : (Nat × Nat) × Int) : Knw :=
  if q.1.1 ∈ keysK s ∧ q.1.2 ∉ keysK s then s ++ [(q.1.2, valK s q.1.1 + q.2)]
  else if q.1.2 ∈ keysK s ∧ q.1.1 ∉ keysK s then s ++ [(q.1.1, valK s q.1.2 - q.2)] else s
def lapK (ps : List (Nat × Nat)) (row : List Int) (s : Knw) : Knw := (ps.zip row).foldl stepK s
theorem keysK_app (s : Knw) (c : Nat) (i : Int) : keysK (s ++ [(c, i)]) = keysK s ++ [c] := by unfold keysK; rw [List.map_append]; rfl
theorem valK_app {s : Knw} {c d : Nat} {i : Int} (h : d ∈ keysK s) : valK (s ++ [(c, i)]) d = valK s d := by
  induction s with
  | nil => cases h
  | cons x r ih =>
    rw [List.cons_append]
    unfold valK
    split
    · rfl
    · next hn =>
      have h' : d ∈ x.1 :: keysK r := h
      rcases List.mem_cons.mp h' with z | z
      · exact absurd z.symm hn
      · exact ih z
theorem valK_new {s : Knw} {c : Nat} {i : Int} (h : c ∉ keysK s) : valK (s ++ [(c, i)]) c = i := by
  induction s with
  | nil => show (if c = c then i else _) = i; rw [if_pos rfl]
  | cons x r ih =>
    rw [List.cons_append]
    unfold valK
    have h' : c ∉ x.1 :: keysK r := h
    rw [List.mem_cons, not_or] at h'
    rw [if_neg fun z => h'.1 z.symm, ih h'.2]
structure Kn (n : Nat) (s : Knw) : Prop where
  nd : (keysK s).Nodup
  lt : ∀ c ∈ keysK s, c < n
  z0 : 0 ∈ keysK s
theorem Kn.add {s : Knw} (k : Kn n s) {c : Nat} {i : Int} (hc : c < n) (hn : c ∉ keysK s) : Kn n (s ++ [(c, i)]) := by
  refine ⟨?_, ?_, ?_⟩ <;> rw [keysK_app]
  · exact List.nodup_append.mpr ⟨k.nd, nd1 _, fun u hu v hv => by
      rw [List.mem_singleton] at hv
      intro z; subst z; subst hv; exact hn hu⟩
  · intro d hd
    rcases List.mem_append.mp hd with h | h
    · exact k.lt d h
    · rw [List.mem_singleton] at h; subst h; exact hc
  · exact List.mem_append_left _ k.z0
theorem Kn.step {s : Knw} (k : Kn n s) {q : (Nat × Nat) × Int} (h1 : q.1.1 < n) (h2 : q.1.2 < n) : Kn n (stepK s q) := by
  unfold stepK
  split
  · next h => exact k.add h2 h.2
  · split
    · next h => exact k.add h1 h.2
    · exact k
theorem Kn.len {s : Knw} (k : Kn n s) : s.length ≤ n := by
  have := nodup_len k.nd (U := List.range n) fun c hc => List.mem_range.mpr (k.lt c hc)
  unfold keysK at this
  rw [List.length_map, List.length_range] at this
  exact this
theorem Kn.ne {s : Knw} (k : Kn n s) : s ≠ [] := fun z => by
  have := k.z0
  rw [z] at this
  cases this
theorem step_len (s : Knw) (q : (Nat × Nat) × Int) : s.length ≤ (stepK s q).length ∧ ((stepK s q).length = s.length → stepK s q = s) := by
  unfold stepK
  split
  · rw [List.length_append, List.length_singleton]; exact ⟨by omega, fun h => by omega⟩
  · split
    · rw [List.length_append, List.length_singleton]; exact ⟨by omega, fun h => by omega⟩
    · exact ⟨Nat.le_refl _, fun _ => rfl⟩
theorem fold_len : ∀ (qs : List ((Nat × Nat) × Int)) (s : Knw), s.length ≤ (qs.foldl stepK s).length ∧ ((qs.foldl stepK s).length = s.length → qs.foldl stepK s = s ∧ ∀ q ∈ qs, stepK s q = s)
  | [], s => ⟨Nat.le_refl _, fun _ => ⟨rfl, fun q hq => by cases hq⟩⟩
  | q :: qs, s => by
    rw [List.foldl_cons]
    obtain ⟨h1, h2⟩ := step_len s q
    obtain ⟨h3, h4⟩ := fold_len qs (stepK s q)
    refine ⟨by omega, fun e => ?_⟩
    have e1 := h2 (by omega)
    rw [e1] at h3 h4 e ⊢
    obtain ⟨h5, h6⟩ := h4 e
    refine ⟨h5, fun x hx => ?_⟩
    rcases List.mem_cons.mp hx with rfl | hx
    · exact e1
    · exact h6 x hx
theorem Kn.fold : ∀ {qs : List ((Nat × Nat) × Int)} {s : Knw}, Kn n s → (∀ q ∈ qs, q.1.1 < n ∧ q.1.2 < n) → Kn n (qs.foldl stepK s)
  | [], _, k, _ => k
  | q :: qs, s, k, h => Kn.fold (qs := qs) (k.step (h q (.head _)).1 (h q (.head _)).2) fun x hx => h x (.tail _ hx)
theorem zip_road {row : List Int} (lt : ∀ p ∈ ps, p.1 < n ∧ p.2 < n) : ∀ q ∈ ps.zip row, q.1.1 < n ∧ q.1.2 < n := fun q hq => lt _ (List.of_mem_zip hq).1
theorem step_same {s : Knw} {q : (Nat × Nat) × Int} (h : stepK s q = s) : q.1.1 ∈ keysK s ↔ q.1.2 ∈ keysK s := by
  unfold stepK at h
  split at h
  · exact absurd (congrArg List.length h) (by rw [List.length_append, List.length_singleton]; omega)
  · next h1 =>
    split at h
    · exact absurd (congrArg List.length h) (by rw [List.length_append, List.length_singleton]; omega)
    · next h2 =>
      constructor
      · intro a; exact Classical.byContradiction fun b => h1 ⟨a, b⟩
      · intro a; exact Classical.byContradiction fun b => h2 ⟨a, b⟩
/-- so many laps -/
def lapsK (ps : List (Nat × Nat)) (row : List Int) : Nat → Knw → Knw
  | 0, s => s
  | k + 1, s => lapsK ps row k (lapK ps row s)
theorem laps_all (lt : ∀ p ∈ ps, p.1 < n ∧ p.2 < n) (hc : Conn n ps) {row : List Int} (hl : row.length = ps.length) : ∀ (k : Nat) (s : Knw), Kn n s → n ≤ k + s.length → Kn n (lapsK ps row k s) ∧ ∀ c, c < n → c ∈ keysK (lapsK ps row k s)
  | 0, s, kn, h => by
    refine ⟨kn, fun c hcn => Classical.byContradiction fun hn => ?_⟩
    have h1 := nodup_len (l := c :: keysK s) (U := List.range n) (List.nodup_cons.mpr ⟨hn, kn.nd⟩) fun d hd => by
      rcases List.mem_cons.mp hd with rfl | hd
      · exact List.mem_range.mpr hcn
      · exact List.mem_range.mpr (kn.lt d hd)
    rw [List.length_cons, List.length_range] at h1
    have : (keysK s).length = s.length := by unfold keysK; rw [List.length_map]
    omega
  | k + 1, s, kn, h => by
    have kn' : Kn n (lapK ps row s) := kn.fold (zip_road lt)
    by_cases e : (lapK ps row s).length = s.length
    · obtain ⟨e1, e2⟩ := (fold_len (ps.zip row) s).2 e
      have e3 : lapK ps row s = s := e1
      have all : ∀ c, c < n → c ∈ keysK s := hc (fun c => c ∈ keysK s) kn.z0 fun p hp => by
        obtain ⟨r, hr, ep⟩ := List.mem_iff_getElem.mp hp
        have hrow : r < row.length := by omega
        have hq : (p, row[r]) ∈ ps.zip row := List.mem_iff_getElem.mpr ⟨r, by rw [List.length_zip]; omega, by rw [List.getElem_zip, ep]⟩
        exact step_same (e2 _ hq)
      have fixed : ∀ j, lapsK ps row j s = s := fun j => by
        induction j with
        | zero => rfl
        | succ j ih => show lapsK ps row j (lapK ps row s) = s; rw [e3, ih]
      show Kn n (lapsK ps row k (lapK ps row s)) ∧ _
      rw [show lapsK ps row (k + 1) s = s from fixed (k + 1), e3, fixed k]
      exact ⟨kn, all⟩
    · have := (fold_len (ps.zip row) s).1
      exact laps_all lt hc hl k _ kn' (by show n ≤ k + (lapK ps row s).length; have h2 : s.length ≤ (lapK ps row s).length := this; omega)
/-- what is known is a height -/
def Fit (h : Nat → Int) (s : Knw) : Prop := ∀ c ∈ keysK s, valK s c = h c - h 0
theorem Fit.step {h : Nat → Int} {s : Knw} (f : Fit h s) {q : (Nat × Nat) × Int} (e : q.2 = h q.1.2 - h q.1.1) : Fit h (stepK s q) := by
  unfold stepK
  split
  · next hh =>
    intro c hc
    rw [keysK_app] at hc
    rcases List.mem_append.mp hc with z | z
    · rw [valK_app z]; exact f c z
    · rw [List.mem_singleton] at z
      subst z
      rw [valK_new hh.2, f _ hh.1]; omega
  · split
    · next hh =>
      intro c hc
      rw [keysK_app] at hc
      rcases List.mem_append.mp hc with z | z
      · rw [valK_app z]; exact f c z
      · rw [List.mem_singleton] at z
        subst z
        rw [valK_new hh.2, f _ hh.1]; omega
    · exact f
theorem Fit.fold {h : Nat → Int} : ∀ {qs : List ((Nat × Nat) × Int)} {s : Knw}, Fit h s → (∀ q ∈ qs, q.2 = h q.1.2 - h q.1.1) → Fit h (qs.foldl stepK s)
  | [], _, f, _ => f
  | q :: qs, s, f, e => Fit.fold (qs := qs) (f.step (e q (.head _))) fun x hx => e x (.tail _ hx)
theorem Fit.laps {h : Nat → Int} {row : List Int} (e : ∀ q ∈ ps.zip row, q.2 = h q.1.2 - h q.1.1) : ∀ (k : Nat) {s : Knw}, Fit h s → Fit h (lapsK ps row k s)
  | 0, _, f => f
  | k + 1, _, f => Fit.laps e k (f.fold e)
end

end VL

/-! Y18: heights of a row, or none. -/
namespace VL
open PySem PySem.Spec PyProof.Rows L2

section
variable {n : Nat} {ps : List (Nat × Nat)}
def bHin : Fx Flow := (fSeq (fIf (fAnd (fB (f2 inD (gw 4) (gw 2))) (fB (f2 notInD (gw 5) (gw 2)))) (sPut 2 (f2 addD (f2 dgetD (gw 2) (gw 4)) (gw 6)) (gv 5)) (fun δ => mp (.nx δ))) (fIf (fAnd (fB (f2 inD (gw 5) (gw 2))) (fB (f2 notInD (gw 4) (gw 2)))) (sPut 2 (f2 subD (f2 dgetD (gw 2) (gw 5)) (gw 6)) (gv 4)) (fun δ => mp (.nx δ))))
def bHlap : Fx Flow := (sFor (fZp (fCons (f2 itemD (gw 0) (fun _ => mp (.int 1))) (fCons (gv 1) fNil))) (gTp 2 (gAC (gTp 2 (gAC (gSet 4) (gAC (gSet 5) gAN))) (gAC (gSet 6) gAN))) bHin)
def stH (n : Nat) (ps : List (Nat × Nat)) (row : List Int) (s : Knw) (x3 x4 x5 x6 : Slot) : List Slot := [.val (fD n ps), .val (mD row), .own (.dict (knwD s)), x3, x4, x5, x6, .nil, .nil]
theorem h_in {row : List Int} {s : Knw} (k : Kn n s) (n5 : n ≤ 5) (q : (Nat × Nat) × Int) (h1 : q.1.1 < n) (h2 : q.1.2 < n) (x3 : Slot) :
    bHin (stH n ps row s x3 (.val (.int (q.1.1 : Nat))) (.val (.int (q.1.2 : Nat))) (.val (.int q.2))) = mp (.nx (stH n ps row (stepK s q) x3 (.val (.int (q.1.1 : Nat))) (.val (.int (q.1.2 : Nat))) (.val (.int q.2)))) := by
  have hl := k.len
  have big := small16 (show 100 ≤ 65536 by decide)
  have i4 : ∀ {s : Knw}, Kn n s → fB (f2 inD (gw 4) (gw 2)) (stH n ps row s x3 (.val (.int (q.1.1 : Nat))) (.val (.int (q.1.2 : Nat))) (.val (.int q.2))) = mp (decide (q.1.1 ∈ keysK s)) := fun k => evB (ev2 rfl rfl (in_knw _ _ k.ne))
  have n4 : ∀ {s : Knw}, Kn n s → fB (f2 notInD (gw 4) (gw 2)) (stH n ps row s x3 (.val (.int (q.1.1 : Nat))) (.val (.int (q.1.2 : Nat))) (.val (.int q.2))) = mp (!decide (q.1.1 ∈ keysK s)) := fun k => evB (ev2 rfl rfl (notin_knw _ _ k.ne))
  have i5 : ∀ {s : Knw}, Kn n s → fB (f2 inD (gw 5) (gw 2)) (stH n ps row s x3 (.val (.int (q.1.1 : Nat))) (.val (.int (q.1.2 : Nat))) (.val (.int q.2))) = mp (decide (q.1.2 ∈ keysK s)) := fun k => evB (ev2 rfl rfl (in_knw _ _ k.ne))
  have n5' : ∀ {s : Knw}, Kn n s → fB (f2 notInD (gw 5) (gw 2)) (stH n ps row s x3 (.val (.int (q.1.1 : Nat))) (.val (.int (q.1.2 : Nat))) (.val (.int q.2))) = mp (!decide (q.1.2 ∈ keysK s)) := fun k => evB (ev2 rfl rfl (notin_knw _ _ k.ne))
  unfold bHin stepK
  by_cases c1 : q.1.1 ∈ keysK s ∧ q.1.2 ∉ keysK s
  · rw [if_pos c1]
    have k' := k.add (i := valK s q.1.1 + q.2) h2 c1.2
    have hm : q.1.1 ∈ keysK (s ++ [(q.1.2, valK s q.1.1 + q.2)]) := by rw [keysK_app]; exact List.mem_append_left _ c1.1
    refine evSeq (δ' := stH n ps row (s ++ [(q.1.2, valK s q.1.1 + q.2)]) x3 (.val (.int (q.1.1 : Nat))) (.val (.int (q.1.2 : Nat))) (.val (.int q.2))) (evIfT ((evAnd (i4 k) fun _ => n5' k).trans (by rw [decide_eq_true c1.1, decide_eq_false c1.2]; rfl)) (evPut (ev2 (ev2 rfl rfl (dget_knw _ _ c1.1)) rfl rfl) rfl (putD_knw rfl c1.2 (by omega)))) ?_
    exact evIfF ((evAnd (i5 k') fun _ => n4 k').trans (by rw [decide_eq_true hm, Bool.not_true, Bool.and_false])) rfl
  · rw [if_neg c1]
    have e1 : fAnd (fB (f2 inD (gw 4) (gw 2))) (fB (f2 notInD (gw 5) (gw 2))) (stH n ps row s x3 (.val (.int (q.1.1 : Nat))) (.val (.int (q.1.2 : Nat))) (.val (.int q.2))) = mp false := (evAnd (i4 k) fun _ => n5' k).trans (by
      by_cases z : q.1.1 ∈ keysK s
      · have z2 : q.1.2 ∈ keysK s := Classical.byContradiction fun w => c1 ⟨z, w⟩
        rw [decide_eq_true z2, Bool.not_true, Bool.and_false]
      · rw [decide_eq_false z]; rfl)
    refine evSeq (δ' := stH n ps row s x3 (.val (.int (q.1.1 : Nat))) (.val (.int (q.1.2 : Nat))) (.val (.int q.2))) (evIfF e1 rfl) ?_
    by_cases c2 : q.1.2 ∈ keysK s ∧ q.1.1 ∉ keysK s
    · rw [if_pos c2]
      exact evIfT ((evAnd (i5 k) fun _ => n4 k).trans (by rw [decide_eq_true c2.1, decide_eq_false c2.2]; rfl)) (evPut (ev2 (ev2 rfl rfl (dget_knw _ _ c2.1)) rfl rfl) rfl (putD_knw rfl c2.2 (by omega)))
    · rw [if_neg c2]
      refine evIfF ((evAnd (i5 k) fun _ => n4 k).trans ?_) rfl
      by_cases z : q.1.2 ∈ keysK s
      · have z2 : q.1.1 ∈ keysK s := Classical.byContradiction fun w => c2 ⟨z, w⟩
        rw [decide_eq_true z2, Bool.not_true, Bool.and_false]
      · rw [decide_eq_false z]; rfl
theorem h_lap (F : Fm n ps) {row : List Int} {s : Knw} (k : Kn n s) (x3 x4 x5 x6 : Slot) : ∃ y4 y5 y6, bHlap (stH n ps row s x3 x4 x5 x6) = mp (.nx (stH n ps row (lapK ps row s) x3 y4 y5 y6)) ∧ Kn n (lapK ps row s) := by
  have m7 := F.m7
  have hz := zip_road (n := n) (ps := ps) (row := row) F.lt
  obtain ⟨δ', e1, k', y4, y5, y6, e2⟩ := forF_pure (g := gTp 2 (gAC (gTp 2 (gAC (gSet 4) (gAC (gSet 5) gAN))) (gAC (gSet 6) gAN))) (b := bHin) (enc := pairD pD PyData.int) (rep := fun s δ => Kn n s ∧ ∃ x4 x5 x6, δ = stH n ps row s x3 x4 x5 x6) (step := stepK) (ps.zip row) (fun s q δ hq ⟨k, x4, x5, x6, e⟩ => by
    subst e
    have hq' := hz q hq
    exact ⟨_, _, rfl, h_in k F.n5 q hq'.1 hq'.2 x3, k.step hq'.1 hq'.2, _, _, _, rfl⟩) s _ ⟨k, x4, x5, x6, rfl⟩
  refine ⟨y4, y5, y6, evFor ((evZp (xs := ps.map pD) (ys := row.map PyData.int) (evCons (ev2 rfl rfl (fD1 n ps)) (evCons rfl evNil)) (by rw [List.length_map]; exact small16 (by omega))).trans (by rw [zipL_map])) ?_, k'⟩
  rw [e1, e2]; rfl
theorem fold_laps (row : List Int) : ∀ (l : List Nat) (s : Knw), l.foldl (fun s _ => lapK ps row s) s = lapsK ps row l.length s
  | [], s => rfl
  | _ :: l, s => by rw [List.foldl_cons, fold_laps row l]; rfl
/-- a row is a cut row -/
def isCut (ps : List (Nat × Nat)) (row : List Int) : Prop := ∃ h : Nat → Int, ∀ r, r < ps.length → row.getD r 0 = h (ps.getD r (0, 0)).2 - h (ps.getD r (0, 0)).1
theorem cutZ_at {h : Nat → Int} {r : Nat} (hr : r < ps.length) : (cutZ ps h).getD r 0 = h (ps.getD r (0, 0)).2 - h (ps.getD r (0, 0)).1 := by
  unfold cutZ
  rw [List.getD_eq_getElem?_getD, List.getElem?_map, List.getElem?_eq_getElem hr, List.getD_eq_getElem?_getD, List.getElem?_eq_getElem hr]; rfl
theorem cutZ_len {h : Nat → Int} : (cutZ ps h).length = ps.length := by unfold cutZ; rw [List.length_map]
theorem sp__law_heights (F : Fm n ps) (hc : Conn n ps) {row : List Int} (hl : row.length = ps.length) : ∃ d b, sem__law_heights [fD n ps, mD row] = some d ∧ isNotD d .none = some (.bool b) ∧ (b = true ↔ isCut ps row) := by
  have m7 := F.m7
  have n5 := F.n5
  have k0 : Kn n [(0, 0)] := ⟨nd1 _, fun c hc => by rw [List.mem_singleton.mp hc]; exact F.n1, .head _⟩
  obtain ⟨δ', e1, k', y3, y4, y5, y6, e2⟩ := forF_pure (g := gSet 3) (b := bHlap) (enc := fun i : Nat => PyData.int (i : Nat)) (rep := fun s δ => Kn n s ∧ ∃ x3 x4 x5 x6, δ = stH n ps row s x3 x4 x5 x6) (step := fun s _ => lapK ps row s) (List.range n) (fun s c δ _ ⟨k, x3, x4, x5, x6, e⟩ => by
    subst e
    obtain ⟨y4, y5, y6, e3, k'⟩ := h_lap F (row := row) k (.val (.int (c : Nat))) x4 x5 x6
    exact ⟨_, _, rfl, e3, k', _, _, _, _, rfl⟩) [(0, 0)] (stH n ps row [(0, 0)] .nil .nil .nil .nil) ⟨k0, _, _, _, _, rfl⟩
  rw [fold_laps, List.length_range] at e2 k'
  obtain ⟨_, all⟩ := laps_all F.lt hc hl n [(0, 0)] k0 (by omega)
  generalize hs : lapsK ps row n [(0, 0)] = s at e2 k' all
  subst e2
  let hv : List Int := (List.range n).map (valK s)
  have hvl : hv.length = n := by show ((List.range n).map _).length = n; rw [List.length_map, List.length_range]
  have hvat : ∀ c, c < n → hv.getD c 0 = valK s c := fun c h => by
    show ((List.range n).map (valK s)).getD c 0 = _
    rw [List.getD_eq_getElem?_getD, List.getElem?_map, List.getElem?_range h]; rfl
  have e7 : fc tupleD (fCons (lcF (fR1 (fCons (f2 itemD (gw 0) (fun _ => mp (.int 0))) fNil)) (gSet 8) (fun _ => mp true) (f2 dgetD (gw 2) (gw 8)) [8]) fNil) (stH n ps row s y3 y4 y5 y6) = mp (mD hv) := by
    refine evc (evCons (evLc0 (enc := fun i : Nat => PyData.int (i : Nat)) (zs := List.range n) (fun c => PyData.int (valK s c)) ((evR1 (evCons (ev2 rfl rfl (fD0 n ps)) evNil) (small16 (by omega))).trans (by rw [rng0])) rfl fun c hcc => ⟨_, rfl, ev2 rfl rfl (dget_knw _ _ (all c (List.mem_range.mp hcc)))⟩) evNil) ?_
    rw [tup_l (by rw [List.length_map, List.length_range]; omega)]
    show some (PyData.tuple _) = some (PyData.tuple (((List.range n).map (valK s)).map PyData.int))
    rw [List.map_map]; rfl
  have er := sp__law_rising (n := n) (ps := ps) (hs := hv) (fun p hp => by rw [hvl]; exact F.lt p hp) (by omega)
  have eb : fB (f2 eqD (fCall 2 sem__law_rising (fCons (gv 0) (fCons (gv 7) fNil))) (fc tupleD (fCons (gw 1) fNil))) [.val (fD n ps), .val (mD row), .own (.dict (knwD s)), y3, y4, y5, y6, .val (mD hv), .nil] = mp (decide (cutZ ps (fun c => hv.getD c 0) = row)) :=
    evB (ev2 (evCall (evCons rfl (evCons rfl evNil)) rfl er) (evc (evCons rfl evNil) rfl) (eq_row _ _))
  have efin : ∀ d, fIf (fB (f2 eqD (fCall 2 sem__law_rising (fCons (gv 0) (fCons (gv 7) fNil))) (fc tupleD (fCons (gw 1) fNil)))) (gv 7) (fun _ => mp .none) [.val (fD n ps), .val (mD row), .own (.dict (knwD s)), y3, y4, y5, y6, .val (mD hv), .nil] = mp d → sem__law_heights [fD n ps, mD row] = some d := fun d hd =>
    evRun (evSeq (evOwn (d := .dict (knwD [(0, 0)])) (evDi1 (k := .inl 0) rfl rfl rfl)) (evSeq (evFor ((evR1 (evCons (ev2 rfl rfl (fD0 n ps)) evNil) (small16 (by omega))).trans (by rw [rng0])) e1) (evSeq (evSet e7) (evRet hd))))
  have hcut : cutZ ps (fun c => hv.getD c 0) = row ↔ isCut ps row := by
    constructor
    · intro e
      refine ⟨fun c => hv.getD c 0, fun r hr => ?_⟩
      rw [← e, cutZ_at hr]
    · rintro ⟨h, hh⟩
      have fit : Fit h s := by
        rw [← hs]
        refine Fit.laps (fun q hq => ?_) n fun c hcc => ?_
        · obtain ⟨r, hr, eq⟩ := List.mem_iff_getElem.mp hq
          have hr1 : r < ps.length := by rw [List.length_zip] at hr; omega
          have := hh r hr1
          rw [List.getElem_zip] at eq
          rw [← eq]
          rw [List.getD_eq_getElem?_getD, List.getElem?_eq_getElem (by omega), List.getD_eq_getElem?_getD, List.getElem?_eq_getElem hr1] at this
          exact this
        · rw [List.mem_singleton.mp (show c ∈ [0] from hcc)]
          show (0 : Int) = _
          omega
      refine turn_ext cutZ_len hl fun r hr => ?_
      have hp := F.lt _ (road_in hr)
      rw [cutZ_at hr, hh r hr, hvat _ hp.1, hvat _ hp.2, fit _ (all _ hp.1), fit _ (all _ hp.2)]
      omega
  by_cases z : cutZ ps (fun c => hv.getD c 0) = row
  · refine ⟨mD hv, true, efin _ (evIfT (eb.trans (by rw [decide_eq_true z])) rfl), rfl, ⟨fun _ => hcut.mp z, fun _ => rfl⟩⟩
  · refine ⟨.none, false, efin _ (evIfF (eb.trans (by rw [decide_eq_false z])) rfl), rfl, ⟨fun h => (by cases h), fun h => absurd (hcut.mpr h) z⟩⟩
end

end VL

/-! Y19: the steps at a crossing. -/
namespace VL
open PySem PySem.Spec PyProof.Rows L2
section
variable {n : Nat} {ps : List (Nat × Nat)}
structure Stp where
  r : Nat
  sg : Int
  th : Nat
def stpD (s : Stp) : D := .tuple [.int (s.r : Nat), .int s.sg, .int (s.th : Nat)]
def stepsAt (c : Nat) (q : (Nat × Nat) × Nat) : List Stp := (if q.1.1 = c then [(Stp.mk q.2 1 q.1.2)] else []) ++ (if q.1.2 = c then [(Stp.mk q.2 (-1) q.1.1)] else [])
def stepsL (ps : List (Nat × Nat)) (c : Nat) : List Stp := ps.zipIdx.flatMap (stepsAt c)
theorem foldl_flat {α β : Type} (g : α → List β) : ∀ (xs : List α) (s : List β), xs.foldl (fun s x => s ++ g x) s = s ++ xs.flatMap g
  | [], s => by simp
  | x :: xs, s => by rw [List.foldl_cons, foldl_flat g xs, List.flatMap_cons, List.append_assoc]
theorem stepsAt_len (c : Nat) (q : (Nat × Nat) × Nat) : (stepsAt c q).length ≤ 2 := by unfold stepsAt; split <;> split <;> simp
def bSt : Fx Flow := (fSeq (fIf (fB (f2 eqD (gw 4) (gw 1))) (sApp 2 (fc tupD (fCons (gv 3) (fCons (fun _ => mp (.int 1)) (fCons (gv 5) fNil))))) (fun δ => mp (.nx δ))) (fIf (fB (f2 eqD (gw 5) (gw 1))) (sApp 2 (fc tupD (fCons (gv 3) (fCons (f1 negD (fun _ => mp (.int 1))) (fCons (gv 4) fNil))))) (fun δ => mp (.nx δ))))
theorem tup3 (a b c : D) : tupD [a, b, c] = some (.tuple [a, b, c]) := tup_ok (small16 (by show 3 ≤ 65536; decide))
theorem sp_steps_on (F : Fm n ps) (c : Nat) : sem_steps_on [fD n ps, .int (c : Nat)] = some (.list ((stepsL ps c).map stpD)) ∧ (stepsL ps c).length ≤ 14 := by
  have m7 := F.m7
  have big := small16 (show 100 ≤ 65536 by decide)
  obtain ⟨δ', e1, hs, x3, x4, x5, e2⟩ := forF_idx (g := gTp 2 (gAC (gSet 3) (gAC (gTp 2 (gAC (gSet 4) (gAC (gSet 5) gAN))) gAN))) (b := bSt) (enc := fun q : (Nat × Nat) × Nat => PyData.tuple [.int (q.2 : Nat), pD q.1])
    (rep := fun i s δ => s.length ≤ 2 * i ∧ ∃ x3 x4 x5, δ = [.val (fD n ps), .val (.int (c : Nat)), .own (.list (s.map stpD)), x3, x4, x5]) (step := fun (s : List Stp) q => s ++ stepsAt c q) ps.zipIdx 0 (fun j s q δ hj ⟨hs, x3, x4, x5, e⟩ => by
      subst e
      have hjl : j < ps.length := by have := (List.getElem?_eq_some_iff.mp hj).1; rw [List.length_zipIdx] at this; exact this
      have hl2 := stepsAt_len c q
      have at4 : ∀ s' : List Stp, fB (f2 eqD (gw 4) (gw 1)) [.val (fD n ps), .val (.int (c : Nat)), .own (.list (s'.map stpD)), .val (.int (q.2 : Nat)), .val (.int (q.1.1 : Nat)), .val (.int (q.1.2 : Nat))] = mp (decide (q.1.1 = c)) := fun s' => evB (ev2 rfl rfl (eq_nat _ _))
      have at5 : ∀ s' : List Stp, fB (f2 eqD (gw 5) (gw 1)) [.val (fD n ps), .val (.int (c : Nat)), .own (.list (s'.map stpD)), .val (.int (q.2 : Nat)), .val (.int (q.1.1 : Nat)), .val (.int (q.1.2 : Nat))] = mp (decide (q.1.2 = c)) := fun s' => evB (ev2 rfl rfl (eq_nat _ _))
      refine ⟨_, [.val (fD n ps), .val (.int (c : Nat)), .own (.list ((s ++ stepsAt c q).map stpD)), .val (.int (q.2 : Nat)), .val (.int (q.1.1 : Nat)), .val (.int (q.1.2 : Nat))], rfl, ?_, by rw [List.length_append]; omega, _, _, _, rfl⟩
      have second : ∀ s' : List Stp, s'.length < 100 → fIf (fB (f2 eqD (gw 5) (gw 1))) (sApp 2 (fc tupD (fCons (gv 3) (fCons (f1 negD (fun _ => mp (.int 1))) (fCons (gv 4) fNil))))) (fun δ => mp (.nx δ)) [.val (fD n ps), .val (.int (c : Nat)), .own (.list (s'.map stpD)), .val (.int (q.2 : Nat)), .val (.int (q.1.1 : Nat)), .val (.int (q.1.2 : Nat))]
          = mp (.nx [.val (fD n ps), .val (.int (c : Nat)), .own (.list ((s' ++ (if q.1.2 = c then [(Stp.mk q.2 (-1) q.1.1)] else [])).map stpD)), .val (.int (q.2 : Nat)), .val (.int (q.1.1 : Nat)), .val (.int (q.1.2 : Nat))]) := fun s' hs' => by
        by_cases z : q.1.2 = c
        · rw [if_pos z]
          refine evIfT ((at5 s').trans (by rw [decide_eq_true z])) (evApp (d := stpD (Stp.mk q.2 (-1) q.1.1)) (evc (evCons rfl (evCons (ev1 rfl rfl) (evCons rfl evNil))) (tup3 _ _ _)) ((appD_own (ds := s'.map stpD) rfl (by rw [List.length_map]; omega)).trans ?_))
          rw [List.map_append]; rfl
        · rw [if_neg z, List.append_nil]
          exact evIfF ((at5 s').trans (by rw [decide_eq_false z])) rfl
      unfold bSt stepsAt
      by_cases z : q.1.1 = c
      · rw [if_pos z]
        refine evSeq (δ' := [.val (fD n ps), .val (.int (c : Nat)), .own (.list ((s ++ [(Stp.mk q.2 1 q.1.2)]).map stpD)), .val (.int (q.2 : Nat)), .val (.int (q.1.1 : Nat)), .val (.int (q.1.2 : Nat))]) (evIfT ((at4 s).trans (by rw [decide_eq_true z])) (evApp (d := stpD (Stp.mk q.2 1 q.1.2)) (evc (evCons rfl (evCons rfl (evCons rfl evNil))) (tup3 _ _ _)) ((appD_own (ds := s.map stpD) rfl (by rw [List.length_map]; omega)).trans ?_))) ?_
        · rw [List.map_append]; rfl
        · rw [second _ (by rw [List.length_append, List.length_singleton]; omega), List.append_assoc]
      · rw [if_neg z, List.nil_append]
        exact evSeq (evIfF ((at4 s).trans (by rw [decide_eq_false z])) rfl) (second s (by omega))) [] [.val (fD n ps), .val (.int (c : Nat)), .own (.list []), .nil, .nil, .nil] ⟨Nat.zero_le _, _, _, _, rfl⟩
  subst e2
  rw [foldl_flat (stepsAt c), List.nil_append] at e1 hs
  rw [List.length_zipIdx] at hs
  refine ⟨?_, by unfold stepsL; omega⟩
  refine evRun (evSeq (evOwn (evc evNil (lst_ok (Nat.zero_le _)))) (evSeq (evFor ((evEn (ev2 rfl rfl (fD1 n ps)) (seq_t (by rw [List.length_map]; exact small16 (by omega)))).trans (by rw [enum_map])) e1) (evRet rfl)))
theorem mem_steps {c : Nat} {s : Stp} : s ∈ stepsL ps c ↔ s.r < ps.length ∧ ((s.sg = 1 ∧ (ps.getD s.r (0, 0)).1 = c ∧ (ps.getD s.r (0, 0)).2 = s.th) ∨ (s.sg = -1 ∧ (ps.getD s.r (0, 0)).2 = c ∧ (ps.getD s.r (0, 0)).1 = s.th)) := by
  unfold stepsL
  rw [List.mem_flatMap]
  constructor
  · rintro ⟨q, hq, hs⟩
    obtain ⟨h1, h2⟩ := zip_lt hq
    have e : ps.getD q.2 (0, 0) = q.1 := by rw [List.getD_eq_getElem?_getD, h2]; rfl
    unfold stepsAt at hs
    rcases List.mem_append.mp hs with z | z
    · by_cases w : q.1.1 = c
      · rw [if_pos w] at z
        rw [List.mem_singleton] at z
        subst z
        exact ⟨h1, .inl ⟨rfl, by rw [e]; exact w, by rw [e]⟩⟩
      · rw [if_neg w] at z; cases z
    · by_cases w : q.1.2 = c
      · rw [if_pos w] at z
        rw [List.mem_singleton] at z
        subst z
        exact ⟨h1, .inr ⟨rfl, by rw [e]; exact w, by rw [e]⟩⟩
      · rw [if_neg w] at z; cases z
  · rintro ⟨h1, h2⟩
    refine ⟨(ps.getD s.r (0, 0), s.r), List.mem_zipIdx_iff_getElem?.mpr ?_, ?_⟩
    · rw [List.getD_eq_getElem?_getD, List.getElem?_eq_getElem h1]; rfl
    · unfold stepsAt
      obtain ⟨r, sg, th⟩ := s
      rcases h2 with ⟨a, b, d⟩ | ⟨a, b, d⟩
      · subst a
        refine List.mem_append_left _ ?_
        simp only at b d
        rw [if_pos b, d]; exact .head _
      · subst a
        refine List.mem_append_right _ ?_
        simp only at b d
        rw [if_pos b, d]; exact .head _
end
end VL

/-! Y20: simple rings, ways lap by lap. No program in sight. -/
namespace VL
structure Wy where
  row : List Int
  here : Nat
  met : List Nat
section
variable {n : Nat} {ps : List (Nat × Nat)} {first a b : Nat}
def okS (first : Nat) (w : Wy) (s : Stp) : Bool := decide (first < s.r) && !decide (s.th ∈ w.met)
def mv (w : Wy) (s : Stp) : List Int := w.row.set s.r s.sg
def child (w : Wy) (s : Stp) : Wy := ⟨mv w s, s.th, w.met ++ [s.th]⟩
def stepR (first a : Nat) (w : Wy) (fl : List (List Int) × List Wy) (s : Stp) : List (List Int) × List Wy :=
  if okS first w s = true then (if s.th = a then (fl.1 ++ [mv w s], fl.2) else (fl.1, fl.2 ++ [child w s])) else fl
def newF (ps : List (Nat × Nat)) (first a : Nat) (w : Wy) : List (List Int) := ((stepsL ps w.here).filter fun s => okS first w s && decide (s.th = a)).map (mv w)
def newL (ps : List (Nat × Nat)) (first a : Nat) (w : Wy) : List Wy := ((stepsL ps w.here).filter fun s => okS first w s && !decide (s.th = a)).map (child w)
theorem steps_fold (w : Wy) : ∀ (ss : List Stp) (fl : List (List Int) × List Wy), ss.foldl (stepR first a w) fl = (fl.1 ++ (ss.filter fun s => okS first w s && decide (s.th = a)).map (mv w), fl.2 ++ (ss.filter fun s => okS first w s && !decide (s.th = a)).map (child w))
  | [], fl => by simp
  | s :: ss, fl => by
    rw [List.foldl_cons, steps_fold w ss]
    unfold stepR
    by_cases h1 : okS first w s = true
    · by_cases h2 : s.th = a
      · rw [if_pos h1, if_pos h2, List.filter_cons_of_pos (by simp [h1, h2]), List.filter_cons_of_neg (by simp [h1, h2])]
        simp
      · rw [if_pos h1, if_neg h2, List.filter_cons_of_neg (by simp [h1, h2]), List.filter_cons_of_pos (by simp [h1, h2])]
        simp
    · rw [if_neg h1, List.filter_cons_of_neg (by simp [h1]), List.filter_cons_of_neg (by simp [h1])]
def lapR (ps : List (Nat × Nat)) (first a : Nat) (s : List (List Int) × List Wy) : List (List Int) × List Wy := (s.1 ++ s.2.flatMap (newF ps first a), s.2.flatMap (newL ps first a))
theorem ways_fold : ∀ (ws : List Wy) (fl : List (List Int) × List Wy), ws.foldl (fun fl w => (stepsL ps w.here).foldl (stepR first a w) fl) fl = (fl.1 ++ ws.flatMap (newF ps first a), fl.2 ++ ws.flatMap (newL ps first a))
  | [], fl => by simp
  | w :: ws, fl => by
    rw [List.foldl_cons, ways_fold ws, steps_fold]
    simp [newF, newL, List.flatMap_cons, List.append_assoc]
theorem dot_set : ∀ (row : List Int) (r : Nat) (v : Int) (ρ : List Int), r < row.length → row.length = ρ.length → dotZ (row.set r v) ρ = dotZ row ρ + (v - row.getD r 0) * ρ.getD r 0
  | [], r, v, ρ, h, _ => by simp at h
  | x :: row, r, v, [], _, h => by cases h
  | x :: row, 0, v, y :: ρ, _, _ => by
    unfold dotZ
    rw [List.set_cons_zero, List.zipWith_cons_cons, List.zipWith_cons_cons, List.sum_cons, List.sum_cons, List.getD_cons_zero, List.getD_cons_zero, Int.sub_mul]
    omega
  | x :: row, r + 1, v, y :: ρ, h, hl => by
    have ih := dot_set row r v ρ (by simpa using h) (by simpa using hl)
    unfold dotZ at *
    rw [List.set_cons_succ, List.zipWith_cons_cons, List.zipWith_cons_cons, List.sum_cons, List.sum_cons, List.getD_cons_succ, List.getD_cons_succ, ih]
    omega
/-- the roads above first rise as h -/
def Ris (ps : List (Nat × Nat)) (first : Nat) (ρ : List Int) (h : Nat → Int) : Prop := ∀ r, first < r → r < ps.length → ρ.getD r 0 = h (ps.getD r (0, 0)).2 - h (ps.getD r (0, 0)).1
/-- a way from b on -/
structure GW (n : Nat) (ps : List (Nat × Nat)) (first a b : Nat) (w : Wy) : Prop where
  len : w.row.length = ps.length
  at_ : w.here ∈ w.met
  nd : w.met.Nodup
  lt : ∀ d ∈ w.met, d < n ∧ d ≠ a
  used : ∀ r, first < r → r < ps.length → w.row.getD r 0 ≠ 0 → (ps.getD r (0, 0)).1 ∈ w.met ∧ (ps.getD r (0, 0)).2 ∈ w.met
  dot : ∀ ρ h, ρ.length = ps.length → Ris ps first ρ h → dotZ w.row ρ = ρ.getD first 0 + h w.here - h b
  last : 2 ≤ w.met.length → ∃ r0, first < r0 ∧ r0 < ps.length ∧ (ps.getD r0 (0, 0)).1 ∈ w.met ∧ (ps.getD r0 (0, 0)).2 ∈ w.met
/-- a ring -/
def RG (ps : List (Nat × Nat)) (first a b : Nat) (g : List Int) : Prop := g.length = ps.length ∧ ∀ ρ h, ρ.length = ps.length → Ris ps first ρ h → dotZ g ρ = ρ.getD first 0 + h a - h b
theorem okS_iff {w : Wy} {s : Stp} : okS first w s = true ↔ first < s.r ∧ s.th ∉ w.met := by unfold okS; simp
/-- what a step does to the product -/
theorem GW.move {w : Wy} (g : GW n ps first a b w) {s : Stp} (hs : s ∈ stepsL ps w.here) (ho : okS first w s = true) :
    (mv w s).length = ps.length ∧ ∀ ρ h, ρ.length = ps.length → Ris ps first ρ h → dotZ (mv w s) ρ = ρ.getD first 0 + h s.th - h b := by
  obtain ⟨hr, hc⟩ := mem_steps.mp hs
  obtain ⟨o1, o2⟩ := okS_iff.mp ho
  refine ⟨by unfold mv; rw [List.length_set, g.len], fun ρ h hl hρ => ?_⟩
  have z : w.row.getD s.r 0 = 0 := Classical.byContradiction fun z => by
    obtain ⟨u1, u2⟩ := g.used s.r o1 hr z
    rcases hc with ⟨_, c1, c2⟩ | ⟨_, c1, c2⟩
    · exact o2 (c2 ▸ u2)
    · exact o2 (c2 ▸ u1)
  unfold mv
  rw [dot_set _ _ _ _ (by rw [g.len]; exact hr) (by rw [g.len, hl]), z, g.dot ρ h hl hρ, hρ s.r o1 hr]
  rcases hc with ⟨c0, c1, c2⟩ | ⟨c0, c1, c2⟩
  · rw [c0, c1, c2]; omega
  · rw [c0, c1, c2]; omega
theorem step_ends {c : Nat} {s : Stp} (hs : s ∈ stepsL ps c) : ((ps.getD s.r (0, 0)).1 = c ∧ (ps.getD s.r (0, 0)).2 = s.th) ∨ ((ps.getD s.r (0, 0)).1 = s.th ∧ (ps.getD s.r (0, 0)).2 = c) := by
  obtain ⟨_, hc⟩ := mem_steps.mp hs
  rcases hc with ⟨_, c1, c2⟩ | ⟨_, c1, c2⟩
  · exact .inl ⟨c1, c2⟩
  · exact .inr ⟨c2, c1⟩
theorem GW.child {w : Wy} (g : GW n ps first a b w) (lt : ∀ p ∈ ps, p.1 < n ∧ p.2 < n) {s : Stp} (hs : s ∈ stepsL ps w.here) (ho : okS first w s = true) (ha : s.th ≠ a) : GW n ps first a b (child w s) := by
  obtain ⟨m1, m2⟩ := g.move hs ho
  obtain ⟨o1, o2⟩ := okS_iff.mp ho
  have hr := (mem_steps.mp hs).1
  have he := step_ends hs
  have hlt := lt _ (road_in hr)
  have hth : s.th < n := by rcases he with ⟨_, e⟩ | ⟨e, _⟩ <;> rw [← e] <;> omega
  have both : (ps.getD s.r (0, 0)).1 ∈ w.met ++ [s.th] ∧ (ps.getD s.r (0, 0)).2 ∈ w.met ++ [s.th] := by
    rcases he with ⟨e1, e2⟩ | ⟨e1, e2⟩ <;> rw [e1, e2]
    · exact ⟨List.mem_append_left _ g.at_, List.mem_append_right _ (.head _)⟩
    · exact ⟨List.mem_append_right _ (.head _), List.mem_append_left _ g.at_⟩
  refine ⟨m1, List.mem_append_right _ (.head _), List.nodup_append.mpr ⟨g.nd, nd1 _, fun u hu v hv => ?_⟩, fun d hd => ?_, fun r h1 h2 h3 => ?_, m2, fun _ => ⟨s.r, o1, hr, both⟩⟩
  · rw [List.mem_singleton] at hv
    intro z; subst z; subst hv; exact o2 hu
  · rcases List.mem_append.mp hd with h | h
    · exact g.lt d h
    · rw [List.mem_singleton] at h; subst h; exact ⟨hth, ha⟩
  · by_cases z : r = s.r
    · subst z; exact both
    · have e : (mv w s).getD r 0 = w.row.getD r 0 := by
        unfold mv
        rw [List.getD_eq_getElem?_getD, List.getElem?_set_ne (Ne.symm z), List.getD_eq_getElem?_getD]
      have := g.used r h1 h2 (by rw [← e]; exact h3)
      exact ⟨List.mem_append_left _ this.1, List.mem_append_left _ this.2⟩
theorem mem_newF {w : Wy} {g : List Int} : g ∈ newF ps first a w ↔ ∃ s ∈ stepsL ps w.here, okS first w s = true ∧ s.th = a ∧ g = mv w s := by
  unfold newF
  rw [List.mem_map]
  constructor
  · rintro ⟨s, hs, rfl⟩
    obtain ⟨h1, h2⟩ := List.mem_filter.mp hs
    rw [Bool.and_eq_true] at h2
    exact ⟨s, h1, h2.1, of_decide_eq_true h2.2, rfl⟩
  · rintro ⟨s, h1, h2, h3, rfl⟩
    exact ⟨s, List.mem_filter.mpr ⟨h1, by rw [h2, decide_eq_true h3]; rfl⟩, rfl⟩
theorem mem_newL {w v : Wy} : v ∈ newL ps first a w ↔ ∃ s ∈ stepsL ps w.here, okS first w s = true ∧ s.th ≠ a ∧ v = child w s := by
  unfold newL
  rw [List.mem_map]
  constructor
  · rintro ⟨s, hs, rfl⟩
    obtain ⟨h1, h2⟩ := List.mem_filter.mp hs
    rw [Bool.and_eq_true] at h2
    exact ⟨s, h1, h2.1, by simpa using h2.2, rfl⟩
  · rintro ⟨s, h1, h2, h3, rfl⟩
    exact ⟨s, List.mem_filter.mpr ⟨h1, by rw [h2, decide_eq_false h3]; rfl⟩, rfl⟩
/-! ### how many -/
theorem ok_one_road (w : Wy) (hh : w.here ∈ w.met) (q : (Nat × Nat) × Nat) : ((stepsAt w.here q).filter (okS first w)).length ≤ if first < q.2 ∧ ¬ (q.1.1 ∈ w.met ∧ q.1.2 ∈ w.met) then 1 else 0 := by
  have no : ∀ s ∈ stepsAt w.here q, okS first w s = true → first < q.2 ∧ ¬ (q.1.1 ∈ w.met ∧ q.1.2 ∈ w.met) := fun s hs ho => by
    obtain ⟨o1, o2⟩ := okS_iff.mp ho
    unfold stepsAt at hs
    rcases List.mem_append.mp hs with z | z
    · by_cases e : q.1.1 = w.here
      · rw [if_pos e, List.mem_singleton] at z
        subst z
        exact ⟨o1, fun y => o2 y.2⟩
      · rw [if_neg e] at z; cases z
    · by_cases e : q.1.2 = w.here
      · rw [if_pos e, List.mem_singleton] at z
        subst z
        exact ⟨o1, fun y => o2 y.1⟩
      · rw [if_neg e] at z; cases z
  by_cases c : first < q.2 ∧ ¬ (q.1.1 ∈ w.met ∧ q.1.2 ∈ w.met)
  · rw [if_pos c]
    have h2 : ¬ (q.1.1 = w.here ∧ q.1.2 = w.here) := fun y => c.2 ⟨y.1 ▸ hh, y.2 ▸ hh⟩
    refine Nat.le_trans (List.length_filter_le _ _) ?_
    unfold stepsAt
    by_cases e1 : q.1.1 = w.here
    · by_cases e2 : q.1.2 = w.here
      · exact absurd ⟨e1, e2⟩ h2
      · rw [if_pos e1, if_neg e2]; exact Nat.le_refl _
    · rw [if_neg e1]
      split <;> simp
  · rw [if_neg c, List.filter_eq_nil_iff.mpr fun s hs ho => c (no s hs ho)]
    exact Nat.le_refl _
theorem flat_filter {α β : Type} (g : α → List β) (p : β → Bool) : ∀ l : List α, ((l.flatMap g).filter p).length = (l.map fun x => ((g x).filter p).length).sum
  | [] => rfl
  | x :: l => by rw [List.flatMap_cons, List.filter_append, List.length_append, flat_filter g p l, List.map_cons, List.sum_cons]
theorem sum_le' {α : Type} {f g : α → Nat} : ∀ {l : List α}, (∀ r ∈ l, f r ≤ g r) → (l.map f).sum ≤ (l.map g).sum
  | [], _ => Nat.le_refl _
  | a :: l, h => by
    rw [List.map_cons, List.map_cons, List.sum_cons, List.sum_cons]
    exact Nat.add_le_add (h a (.head _)) (sum_le' fun r hr => h r (.tail _ hr))
theorem zip_sum {α : Type} (f : Nat → Nat) (l : List α) : (l.zipIdx.map fun q => f q.2).sum = ((List.range l.length).map f).sum := by
  have : l.zipIdx.map (fun q => f q.2) = (List.range l.length).map f := by
    have e : l.zipIdx.map (fun q => f q.2) = (l.zipIdx.map Prod.snd).map f := by rw [List.map_map]; rfl
    rw [e, List.zipIdx_map_snd, List.range_eq_range']
  rw [this]
theorem cnt0 : ∀ m, m < 8 → ∀ f, f < m → ((List.range m).map fun r => if f < r then 1 else 0).sum ≤ m - 1 - f := by decide
theorem cnt1 : ∀ m, m < 8 → ∀ f, f < m → ∀ r0, r0 < m → f < r0 → ((List.range m).map fun r => if f < r ∧ r ≠ r0 then 1 else 0).sum ≤ m - 1 - f - 1 := by decide
/-- so many go on from a way -/
def chq (q i : Nat) : Nat := if i = 0 then q else q - 1
theorem GW.count {w : Wy} (g : GW n ps first a b w) (m7 : ps.length ≤ 7) (hf : first < ps.length) {i : Nat} (hi : w.met.length = i + 1) : ((stepsL ps w.here).filter (okS first w)).length ≤ chq (ps.length - 1 - first) i := by
  unfold stepsL
  rw [flat_filter]
  have h1 := sum_le' (f := fun q => ((stepsAt w.here q).filter (okS first w)).length) (g := fun q : (Nat × Nat) × Nat => if first < q.2 ∧ ¬ (q.1.1 ∈ w.met ∧ q.1.2 ∈ w.met) then 1 else 0) (l := ps.zipIdx) fun q _ => ok_one_road w g.at_ q
  refine Nat.le_trans h1 ?_
  unfold chq
  by_cases z : i = 0
  · rw [if_pos z]
    have h2 := sum_le' (f := fun q : (Nat × Nat) × Nat => if first < q.2 ∧ ¬ (q.1.1 ∈ w.met ∧ q.1.2 ∈ w.met) then 1 else 0) (g := fun q => if first < q.2 then 1 else 0) (l := ps.zipIdx) fun q _ => by
      by_cases c : first < q.2
      · rw [if_pos c]; split <;> omega
      · rw [if_neg c, if_neg fun y => c y.1]; exact Nat.le_refl _
    refine Nat.le_trans h2 ?_
    rw [zip_sum (fun r => if first < r then 1 else 0)]
    exact cnt0 _ (by omega) _ hf
  · rw [if_neg z]
    obtain ⟨r0, r1, r2, r3, r4⟩ := g.last (by omega)
    have h2 := sum_le' (f := fun q : (Nat × Nat) × Nat => if first < q.2 ∧ ¬ (q.1.1 ∈ w.met ∧ q.1.2 ∈ w.met) then 1 else 0) (g := fun q => if first < q.2 ∧ q.2 ≠ r0 then 1 else 0) (l := ps.zipIdx) fun q hq => by
      by_cases c : first < q.2 ∧ q.2 ≠ r0
      · rw [if_pos c]; split <;> omega
      · rw [if_neg c]
        by_cases c1 : first < q.2
        · have e : q.2 = r0 := Classical.byContradiction fun y => c ⟨c1, y⟩
          have e2 : ps.getD q.2 (0, 0) = q.1 := by rw [List.getD_eq_getElem?_getD, (zip_lt hq).2]; rfl
          rw [← e, e2] at r3 r4
          rw [if_neg fun y => y.2 ⟨r3, r4⟩]; exact Nat.le_refl _
        · rw [if_neg fun y => c1 y.1]; exact Nat.le_refl _
    refine Nat.le_trans h2 ?_
    rw [zip_sum (fun r => if first < r ∧ r ≠ r0 then 1 else 0)]
    exact cnt1 _ (by omega) _ hf _ r2 r1
end
end VL

/-! Y21: all simple rings by a road: how many, and that there is one if there is a way back. No program in sight. -/
namespace VL
section
variable {n : Nat} {ps : List (Nat × Nat)} {first a b : Nat}
def KK (q : Nat) : Nat → Nat
  | 0 => 1
  | j + 1 => max 1 ((q - 1) * KK q j)
def Kl (q i : Nat) : Nat := if i = 0 then max 1 (q * KK q 3) else KK q (4 - i)
theorem KK_pos (q : Nat) : ∀ j, 1 ≤ KK q j
  | 0 => Nat.le_refl _
  | j + 1 => Nat.le_max_left _ _
theorem Kl_pos (q i : Nat) : 1 ≤ Kl q i := by
  unfold Kl
  split
  · exact Nat.le_max_left _ _
  · exact KK_pos q _
theorem Kl_step (q : Nat) {i : Nat} (h : i ≤ 3) : chq q i * Kl q (i + 1) ≤ Kl q i := by
  match i, h with
  | 0, _ => exact Nat.le_max_right _ _
  | 1, _ => exact Nat.le_max_right _ _
  | 2, _ => exact Nat.le_max_right _ _
  | 3, _ => exact Nat.le_max_right _ _
theorem Kl_750 : ∀ q, q < 7 → Kl q 0 ≤ 750 := by decide
/-- there are crossings from which one doesn't come to a -/
def Ghost (ps : List (Nat × Nat)) (first a b : Nat) (ws : List Wy) : Prop := ∃ G : Nat → Prop, G b ∧ ¬ G a ∧ (∀ w ∈ ws, ∀ d ∈ w.met, G d) ∧
  ∀ c, G c → (∃ w ∈ ws, w.here = c) ∨ ∀ r, first < r → r < ps.length → ((ps.getD r (0, 0)).1 = c → G (ps.getD r (0, 0)).2) ∧ ((ps.getD r (0, 0)).2 = c → G (ps.getD r (0, 0)).1)
structure RI (n : Nat) (ps : List (Nat × Nat)) (first a b i : Nat) (s : List (List Int) × List Wy) : Prop where
  ways : ∀ w ∈ s.2, GW n ps first a b w ∧ w.met.length = i + 1
  fnd : ∀ g ∈ s.1, RG ps first a b g
  pot : s.1.length + s.2.length * Kl (ps.length - 1 - first) i ≤ Kl (ps.length - 1 - first) 0
  gh : s.1 = [] → Ghost ps first a b s.2
theorem filter_two {α : Type} (p c : α → Bool) : ∀ l : List α, (l.filter fun x => p x && c x).length + (l.filter fun x => p x && !c x).length = (l.filter p).length
  | [] => rfl
  | x :: l => by
    have ih := filter_two p c l
    cases h : p x <;> cases h2 : c x <;> simp [h, h2] <;> omega
theorem new_count (w : Wy) : (newF ps first a w).length + (newL ps first a w).length = ((stepsL ps w.here).filter (okS first w)).length := by
  unfold newF newL
  rw [List.length_map, List.length_map]
  exact filter_two (okS first w) (fun s => decide (s.th = a)) _
theorem flat_pot (κ c : Nat) (h1 : 1 ≤ κ) : ∀ ws : List Wy, (∀ w ∈ ws, (newF ps first a w).length + (newL ps first a w).length ≤ c) → (ws.flatMap (newF ps first a)).length + (ws.flatMap (newL ps first a)).length * κ ≤ ws.length * (c * κ)
  | [], _ => by simp
  | w :: ws, h => by
    have ih := flat_pot κ c h1 ws fun v hv => h v (.tail _ hv)
    have h0 := h w (.head _)
    rw [List.flatMap_cons, List.flatMap_cons, List.length_append, List.length_append, List.length_cons, Nat.add_mul, Nat.add_mul, Nat.one_mul]
    have h3 : (newF ps first a w).length + (newL ps first a w).length * κ ≤ c * κ := by
      have : (newF ps first a w).length ≤ (newF ps first a w).length * κ := Nat.le_mul_of_pos_right _ h1
      have h4 : ((newF ps first a w).length + (newL ps first a w).length) * κ ≤ c * κ := Nat.mul_le_mul_right κ h0
      rw [Nat.add_mul] at h4
      omega
    omega
theorem RI.lap (F : Fm n ps) (hf : first < ps.length) {i : Nat} (hi : i ≤ 3) {s : List (List Int) × List Wy} (R : RI n ps first a b i s) : RI n ps first a b (i + 1) (lapR ps first a s) := by
  refine ⟨fun v hv => ?_, fun g hg => ?_, ?_, fun e => ?_⟩
  · obtain ⟨w, hw, hv⟩ := List.mem_flatMap.mp hv
    obtain ⟨st, h1, h2, h3, rfl⟩ := mem_newL.mp hv
    obtain ⟨g, hl⟩ := R.ways w hw
    refine ⟨g.child F.lt h1 h2 h3, ?_⟩
    show (w.met ++ [st.th]).length = _
    rw [List.length_append, List.length_singleton, hl]
  · rcases List.mem_append.mp hg with h | h
    · exact R.fnd g h
    · obtain ⟨w, hw, hg⟩ := List.mem_flatMap.mp h
      obtain ⟨st, h1, h2, h3, rfl⟩ := mem_newF.mp hg
      have := (R.ways w hw).1.move h1 h2
      rw [h3] at this
      exact this
  · have h1 := flat_pot (ps := ps) (first := first) (a := a) (Kl (ps.length - 1 - first) (i + 1)) (chq (ps.length - 1 - first) i) (Kl_pos _ _) s.2 fun w hw => by
      rw [new_count]
      exact (R.ways w hw).1.count F.m7 hf (R.ways w hw).2
    have h2 := Nat.mul_le_mul_left s.2.length (Kl_step (ps.length - 1 - first) hi)
    have h3 := R.pot
    show (s.1 ++ s.2.flatMap (newF ps first a)).length + (s.2.flatMap (newL ps first a)).length * _ ≤ _
    rw [List.length_append]
    omega
  · have e' : s.1 = [] ∧ s.2.flatMap (newF ps first a) = [] := List.append_eq_nil_iff.mp e
    obtain ⟨G, g1, g2, g3, g4⟩ := R.gh e'.1
    have noF : ∀ w ∈ s.2, newF ps first a w = [] := fun w hw => by
      refine List.eq_nil_iff_forall_not_mem.mpr fun x hx => ?_
      have : x ∈ s.2.flatMap (newF ps first a) := List.mem_flatMap.mpr ⟨w, hw, hx⟩
      rw [e'.2] at this
      cases this
    refine ⟨fun c => G c ∨ ∃ v ∈ s.2.flatMap (newL ps first a), v.here = c, .inl g1, fun h => ?_, fun v hv d hd => ?_, fun c hc => ?_⟩
    · rcases h with h | ⟨v, hv, e⟩
      · exact g2 h
      · obtain ⟨w, hw, hv⟩ := List.mem_flatMap.mp hv
        obtain ⟨st, h1, h2, h3, rfl⟩ := mem_newL.mp hv
        exact h3 e
    · have hv' := hv
      obtain ⟨w, hw, hv⟩ := List.mem_flatMap.mp hv
      obtain ⟨st, h1, h2, h3, rfl⟩ := mem_newL.mp hv
      rcases List.mem_append.mp (show d ∈ w.met ++ [st.th] from hd) with z | z
      · exact .inl (g3 w hw d z)
      · rw [List.mem_singleton] at z
        exact .inr ⟨_, hv', z.symm⟩
    · rcases hc with hc | ⟨v, hv, e⟩
      · right
        rcases g4 c hc with ⟨w, hw, hwc⟩ | h
        · -- the crossing was walked in this lap
          have one : ∀ st, st ∈ stepsL ps c → first < st.r → (G st.th ∨ ∃ v ∈ s.2.flatMap (newL ps first a), v.here = st.th) := fun st hst ho => by
            by_cases z : st.th ∈ w.met
            · exact .inl (g3 w hw _ z)
            · have ok : okS first w st = true := okS_iff.mpr ⟨ho, z⟩
              rw [← hwc] at hst
              by_cases y : st.th = a
              · exfalso
                have : mv w st ∈ newF ps first a w := mem_newF.mpr ⟨st, hst, ok, y, rfl⟩
                rw [noF w hw] at this
                cases this
              · exact .inr ⟨child w st, List.mem_flatMap.mpr ⟨w, hw, mem_newL.mpr ⟨st, hst, ok, y, rfl⟩⟩, rfl⟩
          intro r h1 h2
          exact ⟨fun q => one ⟨r, 1, (ps.getD r (0, 0)).2⟩ (mem_steps.mpr ⟨h2, .inl ⟨rfl, q, rfl⟩⟩) h1, fun q => one ⟨r, -1, (ps.getD r (0, 0)).1⟩ (mem_steps.mpr ⟨h2, .inr ⟨rfl, q, rfl⟩⟩) h1⟩
        · intro r h1 h2
          exact ⟨fun q => .inl ((h r h1 h2).1 q), fun q => .inl ((h r h1 h2).2 q)⟩
      · exact .inl ⟨v, hv, e⟩
def condR (s : List (List Int) × List Wy) : Bool := !s.2.isEmpty
theorem RI.short (F : Fm n ps) (han : a < n) {i : Nat} {s : List (List Int) × List Wy} (R : RI n ps first a b i s) (h : s.2 ≠ []) : i ≤ 3 := by
  obtain ⟨w, hw⟩ := List.exists_mem_of_ne_nil _ h
  obtain ⟨g, hl⟩ := R.ways w hw
  have h1 := nodup_len (l := a :: w.met) (U := List.range n) (List.nodup_cons.mpr ⟨fun z => (g.lt a z).2 rfl, g.nd⟩) fun d hd => by
    rcases List.mem_cons.mp hd with rfl | hd
    · exact List.mem_range.mpr han
    · exact List.mem_range.mpr (g.lt d hd).1
  rw [List.length_cons, List.length_range] at h1
  have := F.n5
  omega
theorem rings_run (F : Fm n ps) (hf : first < ps.length) (han : a < n) : ∀ (k i : Nat) (s : List (List Int) × List Wy), RI n ps first a b i s → i ≤ 4 → 5 ≤ k + i →
    ∃ f j, runW condR (lapR ps first a) k s = some (f, []) ∧ RI n ps first a b j (f, [])
  | 0, i, s, R, h4, h => absurd h (by omega)
  | k + 1, i, s, R, h4, h => by
    unfold runW
    cases hc : condR s with
    | false =>
      rw [if_neg (by decide)]
      have e : s.2 = [] := by
        unfold condR at hc
        cases h2 : s.2 with
        | nil => rfl
        | cons u v => rw [h2] at hc; cases hc
      have e2 : s = (s.1, []) := by rw [← e]
      exact ⟨s.1, i, congrArg some e2, e2 ▸ R⟩
    | true =>
      rw [if_pos rfl]
      have hne : s.2 ≠ [] := fun z => by unfold condR at hc; rw [z] at hc; cases hc
      have hi := R.short F han hne
      exact rings_run F hf han k (i + 1) _ (R.lap F hf hi) (by omega) (by omega)
end
end VL

/-! Y22: rings by a road: the laps. -/
namespace VL
open PySem PySem.Spec PyProof.Rows L2

section
variable {n : Nat} {ps : List (Nat × Nat)} {first a b : Nat}
def bRin : Fx Flow := (fIf (fAnd (fB (f2 gtD (gw 4) (gw 1))) (fB (f2 notInD (gw 12) (gw 10)))) (fSeq (sSet 13 (fc tupleD (fCons (lcF (fEn (gv 5)) (gTp 2 (gAC (gSet 14) (gAC (gSet 15) gAN))) (fun _ => mp true) (fIf (fB (f2 eqD (gw 14) (gw 4))) (gv 11) (gv 15)) [14, 15]) fNil))) (fIf (fB (f2 eqD (gw 12) (gw 2))) (sApp 6 (gv 13)) (sApp 8 (fc tupD (fCons (gv 13) (fCons (gv 12) (fCons (fc tupD (fStar (gv 10) (fCons (gv 12) fNil))) fNil))))))) (fun δ => mp (.nx δ)))
def bRmid : Fx Flow := (sFor (fSq (fCall 2 sem_steps_on (fCons (gv 0) (fCons (gv 9) fNil)))) (gTp 3 (gAC (gSet 4) (gAC (gSet 11) (gAC (gSet 12) gAN)))) bRin)
def bR : Fx Flow := (fSeq (sOwn 8 (fc lstD fNil)) (fSeq (sFor (fSq (gv 7)) (gTp 3 (gAC (gSet 5) (gAC (gSet 9) (gAC (gSet 10) gAN)))) bRmid) (fFrz 8 (fSeq (sSet 7 (gv 8)) (fIf (fB (f2 gtD (f2 addD (fc lenD (fCons (gw 6) fNil)) (fc lenD (fCons (gw 7) fNil))) (fun _ => mp (.int 2000)))) (fun _ => m0) (fun δ => mp (.nx δ)))))))
def wyD (w : Wy) : D := .tuple [mD w.row, .int (w.here : Nat), nD w.met]
def stW (n : Nat) (ps : List (Nat × Nat)) (first a b : Nat) (ws : List Wy) (w : Wy) (fl : List (List Int) × List Wy) (x4 x11 x12 x13 : Slot) : List Slot :=
  [.val (fD n ps), .val (.int (first : Nat)), .val (.int (a : Nat)), .val (.int (b : Nat)), x4, .val (mD w.row), .own (.list (fl.1.map mD)), .val (.list (ws.map wyD)), .own (.list (fl.2.map wyD)), .val (.int (w.here : Nat)), .val (nD w.met), x11, x12, x13, .nil, .nil]
theorem set_zip (row : List Int) (r : Nat) (v : Int) : (row.zipIdx.map fun q => if q.2 = r then v else q.1) = row.set r v := by
  apply List.ext_getElem?
  intro i
  rw [List.getElem?_map, List.getElem?_zipIdx]
  cases h : row[i]? with
  | none =>
    rw [List.getElem?_eq_none (by rw [List.length_set]; exact List.getElem?_eq_none_iff.mp h)]; rfl
  | some x =>
    have hi : i < row.length := (List.getElem?_eq_some_iff.mp h).1
    show some (if 0 + i = r then v else x) = _
    rw [Nat.zero_add]
    by_cases e : i = r
    · subst e
      rw [if_pos rfl, List.getElem?_set_self hi]
    · rw [if_neg e, List.getElem?_set_ne (Ne.symm e), h]
theorem gt_nat (x y : Nat) : gtD (.int (x : Nat)) (.int (y : Nat)) = some (.bool (decide (y < x))) := by
  rw [gt_int]
  congr 2
  by_cases h : y < x
  · rw [decide_eq_true h, decide_eq_true (by omega)]
  · rw [decide_eq_false h, decide_eq_false (by omega)]
theorem app_wy {δ : List Slot} {i : Nat} {f : List Wy} {t : Wy} (h : δ[i]? = some (.own (.list (f.map wyD)))) (hl : f.length < sizeLine) : appD i (wyD t) δ = some (δ.set i (.own (.list ((f ++ [t]).map wyD)))) := by
  rw [appD_own h (by rw [List.length_map]; exact hl), List.map_append]; rfl
theorem rin (ws : List Wy) {w : Wy} (hrl : w.row.length ≤ 1000) (hml : w.met.length ≤ 1000) {fl : List (List Int) × List Wy} (h1 : fl.1.length < 60000) (h2 : fl.2.length < 60000) (s : Stp) (x13 : Slot) :
    ∃ y13, bRin (stW n ps first a b ws w fl (.val (.int (s.r : Nat))) (.val (.int s.sg)) (.val (.int (s.th : Nat))) x13) = mp (.nx (stW n ps first a b ws w (stepR first a w fl s) (.val (.int (s.r : Nat))) (.val (.int s.sg)) (.val (.int (s.th : Nat))) y13)) := by
  have big := small16 (show 65000 ≤ 65536 by decide)
  have et : fAnd (fB (f2 gtD (gw 4) (gw 1))) (fB (f2 notInD (gw 12) (gw 10))) (stW n ps first a b ws w fl (.val (.int (s.r : Nat))) (.val (.int s.sg)) (.val (.int (s.th : Nat))) x13) = mp (okS first w s) := by
    unfold okS
    exact evAnd (evB (ev2 rfl rfl (gt_nat _ _))) fun _ => evB (ev2 rfl rfl (notin_nats _ _))
  have em : fc tupleD (fCons (lcF (fEn (gv 5)) (gTp 2 (gAC (gSet 14) (gAC (gSet 15) gAN))) (fun _ => mp true) (fIf (fB (f2 eqD (gw 14) (gw 4))) (gv 11) (gv 15)) [14, 15]) fNil) (stW n ps first a b ws w fl (.val (.int (s.r : Nat))) (.val (.int s.sg)) (.val (.int (s.th : Nat))) x13) = mp (mD (mv w s)) := by
    refine evc (evCons (evLc0 (enc := fun q : Int × Nat => PyData.tuple [.int (q.2 : Nat), .int q.1]) (zs := w.row.zipIdx) (fun q => PyData.int (if q.2 = s.r then s.sg else q.1)) ((evEn rfl (seq_t (by rw [List.length_map]; exact small16 (by omega)))).trans (by rw [enum_map])) rfl fun q hq => ⟨_, rfl, ?_⟩) evNil) ?_
    · refine evIf (evB (ev2 rfl rfl (eq_nat _ _))) (fun hk => ?_) fun hk => ?_
      · rw [if_pos (by simpa using hk)]; rfl
      · rw [if_neg (by simpa using hk)]; rfl
    · rw [tup_l (by rw [List.length_map, List.length_zipIdx]; omega)]
      unfold mv mD
      rw [← set_zip, List.map_map]; rfl
  unfold bRin stepR
  by_cases ho : okS first w s = true
  · rw [if_pos ho]
    rw [ho] at et
    refine ⟨.val (mD (mv w s)), evIfT et (evSeq (evSet em) ?_)⟩
    by_cases hz : s.th = a
    · rw [if_pos hz]
      exact evIfT (evB (ev2 rfl rfl ((eq_nat _ _).trans (by rw [decide_eq_true hz])))) (evApp rfl (app_at rfl (by omega)))
    · rw [if_neg hz]
      refine evIfF (evB (ev2 rfl rfl ((eq_nat _ _).trans (by rw [decide_eq_false hz])))) (evApp (d := wyD (child w s)) (evc (evCons rfl (evCons rfl (evCons (evc (evStar rfl rfl (evCons rfl evNil)) (tup_ok ?_)) evNil))) ?_) (app_wy rfl (by omega)))
      · rw [List.length_append, List.length_map, List.length_singleton]; omega
      · rw [tup3]
        show some (PyData.tuple [mD (mv w s), .int (s.th : Nat), .tuple (w.met.map (fun i => PyData.int (i : Nat)) ++ [.int (s.th : Nat)])]) = some (PyData.tuple [mD (mv w s), .int (s.th : Nat), .tuple ((w.met ++ [s.th]).map fun i => PyData.int (i : Nat))])
        rw [List.map_append]; rfl
  · have ho' : okS first w s = false := by simpa using ho
    rw [if_neg ho]
    rw [ho'] at et
    exact ⟨x13, evIfF et rfl⟩
theorem stepR_len (w : Wy) (fl : List (List Int) × List Wy) (s : Stp) : (stepR first a w fl s).1.length + (stepR first a w fl s).2.length ≤ fl.1.length + fl.2.length + 1 := by
  unfold stepR
  split
  · split <;> simp <;> omega
  · omega
theorem rmid (F : Fm n ps) (ws : List Wy) {w : Wy} (hrl : w.row.length ≤ 1000) (hml : w.met.length ≤ 1000) {fl : List (List Int) × List Wy} (h : fl.1.length + fl.2.length < 50000) (x4 x11 x12 x13 : Slot) :
    ∃ y4 y11 y12 y13, bRmid (stW n ps first a b ws w fl x4 x11 x12 x13) = mp (.nx (stW n ps first a b ws w ((stepsL ps w.here).foldl (stepR first a w) fl) y4 y11 y12 y13)) ∧ ((stepsL ps w.here).foldl (stepR first a w) fl).1.length + ((stepsL ps w.here).foldl (stepR first a w) fl).2.length ≤ fl.1.length + fl.2.length + 14 := by
  obtain ⟨es, el⟩ := sp_steps_on F w.here
  obtain ⟨δ', e1, hs, y4, y11, y12, y13, e2⟩ := forF_idx (g := gTp 3 (gAC (gSet 4) (gAC (gSet 11) (gAC (gSet 12) gAN)))) (b := bRin) (enc := stpD) (rep := fun i (g : List (List Int) × List Wy) δ => g.1.length + g.2.length ≤ fl.1.length + fl.2.length + i ∧ ∃ x4 x11 x12 x13, δ = stW n ps first a b ws w g x4 x11 x12 x13)
    (step := stepR first a w) (stepsL ps w.here) 0 (fun j g s δ hj ⟨hs, x4, x11, x12, x13, e⟩ => by
      subst e
      have hjl := (List.getElem?_eq_some_iff.mp hj).1
      obtain ⟨y13, e3⟩ := rin (n := n) (ps := ps) (first := first) (a := a) (b := b) ws hrl hml (fl := g) (by omega) (by omega) s x13
      have := stepR_len (first := first) (a := a) w g s
      exact ⟨_, _, rfl, e3, by omega, _, _, _, _, rfl⟩) fl (stW n ps first a b ws w fl x4 x11 x12 x13) ⟨by omega, _, _, _, _, rfl⟩
  refine ⟨y4, y11, y12, y13, ?_, by omega⟩
  unfold bRmid
  refine evFor (evSq (evCall (evCons rfl (evCons rfl evNil)) rfl es) (seq_l (by rw [List.length_map]; exact small16 (by omega)))) ?_
  rw [e1, e2]
/-- the state between laps -/
def stL (n : Nat) (ps : List (Nat × Nat)) (first a b : Nat) (s : List (List Int) × List Wy) (x4 x5 x8 x9 x10 x11 x12 x13 : Slot) : List Slot :=
  [.val (fD n ps), .val (.int (first : Nat)), .val (.int (a : Nat)), .val (.int (b : Nat)), x4, x5, .own (.list (s.1.map mD)), .val (.list (s.2.map wyD)), x8, x9, x10, x11, x12, x13, .nil, .nil]
theorem evFrz {i : Nat} {p : Fx Flow} {δ : List Slot} {d : D} {fl : Flow} (h : δ[i]? = some (.own d)) (hp : p (δ.set i (.val d)) = mp fl) : fFrz i p δ = mp fl := by
  unfold fFrz
  rw [h]
  exact hp
theorem RI.small {i : Nat} {s : List (List Int) × List Wy} (m7 : ps.length ≤ 7) (hf : first < ps.length) (R : RI n ps first a b i s) : s.1.length + s.2.length ≤ 750 := by
  have h1 := Kl_750 (ps.length - 1 - first) (by omega)
  have h2 := R.pot
  have h3 := Nat.le_mul_of_pos_right s.2.length (Kl_pos (ps.length - 1 - first) i)
  omega
theorem rlap (F : Fm n ps) (hf : first < ps.length) (han : a < n) {i : Nat} {s : List (List Int) × List Wy} (R : RI n ps first a b i s) (hc : condR s = true) (x4 x5 x8 x9 x10 x11 x12 x13 : Slot) :
    ∃ y4 y5 y8 y9 y10 y11 y12 y13, bR (stL n ps first a b s x4 x5 x8 x9 x10 x11 x12 x13) = mp (.nx (stL n ps first a b (lapR ps first a s) y4 y5 y8 y9 y10 y11 y12 y13)) ∧ RI n ps first a b (i + 1) (lapR ps first a s) ∧ i ≤ 3 := by
  have m7 := F.m7
  have hne : s.2 ≠ [] := fun z => by unfold condR at hc; rw [z] at hc; cases hc
  have hi := R.short F han hne
  have R' := R.lap F hf hi
  have hsm := R.small m7 hf
  have hsm' := R'.small m7 hf
  obtain ⟨δ', e1, hs, e2⟩ := forF_idx (g := gTp 3 (gAC (gSet 5) (gAC (gSet 9) (gAC (gSet 10) gAN)))) (b := bRmid) (enc := wyD) (rep := fun j (g : List (List Int) × List Wy) δ => g.1.length + g.2.length ≤ 750 + 14 * j ∧ ∃ x4 x5 x9 x10 x11 x12 x13, δ = [.val (fD n ps), .val (.int (first : Nat)), .val (.int (a : Nat)), .val (.int (b : Nat)), x4, x5, .own (.list (g.1.map mD)), .val (.list (s.2.map wyD)), .own (.list (g.2.map wyD)), x9, x10, x11, x12, x13, .nil, .nil])
    (step := fun fl w => (stepsL ps w.here).foldl (stepR first a w) fl) s.2 0 (fun j g w δ hj ⟨hg, x4, x5, x9, x10, x11, x12, x13, e⟩ => by
      subst e
      have hjl := (List.getElem?_eq_some_iff.mp hj).1
      obtain ⟨gw, hml⟩ := R.ways w (List.mem_of_getElem? hj)
      obtain ⟨y4, y11, y12, y13, e3, e4⟩ := rmid (n := n) (ps := ps) (first := first) (a := a) (b := b) F s.2 (w := w) (by rw [gw.len]; omega) (by omega) (fl := g) (by omega) x4 x11 x12 x13
      exact ⟨_, _, rfl, e3, by omega, _, _, _, _, _, _, _, rfl⟩) (s.1, []) [.val (fD n ps), .val (.int (first : Nat)), .val (.int (a : Nat)), .val (.int (b : Nat)), x4, x5, .own (.list (s.1.map mD)), .val (.list (s.2.map wyD)), .own (.list []), x9, x10, x11, x12, x13, .nil, .nil] ⟨by show s.1.length + 0 ≤ _; omega, _, _, _, _, _, _, _, rfl⟩
  have elap : s.2.foldl (fun fl w => (stepsL ps w.here).foldl (stepR first a w) fl) (s.1, []) = lapR ps first a s := by rw [ways_fold]; rfl
  rw [elap] at e2
  obtain ⟨y4, y5, y9, y10, y11, y12, y13, e2⟩ := e2
  subst e2
  refine ⟨y4, y5, .val (.list ((lapR ps first a s).2.map wyD)), y9, y10, y11, y12, y13, ?_, R', hi⟩
  unfold bR
  refine evSeq (evOwn (evc evNil (lst_ok (Nat.zero_le _)))) (evSeq (evFor (evSq rfl (seq_l (by rw [List.length_map]; exact small16 (by omega)))) e1) (evFrz rfl (evSeq (evSet rfl) (evIfF (evB (ev2 (ev2 (evc (evCons rfl evNil) (len_l _)) (evc (evCons rfl evNil) (len_l _)) rfl) rfl ?_)) rfl))))
  rw [List.length_map, List.length_map]
  show some (PyData.bool (decide ((((lapR ps first a s).1.length : Int) + ((lapR ps first a s).2.length : Int)) > 2000))) = _
  rw [decide_eq_false (by omega)]
end

end VL

/-! Y23: rings by a road; all simple rings. -/
namespace VL
open PySem PySem.Spec PyProof.Rows L2
section
variable {n : Nat} {ps : List (Nat × Nat)} {first a b : Nat}
def unitR (m first : Nat) : List Int := (zeroR m).set first 1
theorem dot_zero : ∀ (m : Nat) (ρ : List Int), dotZ (zeroR m) ρ = 0
  | 0, _ => rfl
  | m + 1, [] => rfl
  | m + 1, y :: ρ => by
    have ih := dot_zero m ρ
    unfold dotZ zeroR at *
    rw [List.replicate_succ, List.zipWith_cons_cons, List.sum_cons, ih]; simp
theorem zero_at {m r : Nat} : (zeroR m).getD r 0 = 0 := by
  unfold zeroR
  rw [List.getD_eq_getElem?_getD, List.getElem?_replicate]
  split <;> rfl
theorem unit_dot {ρ : List Int} (hf : first < ps.length) (hl : ρ.length = ps.length) : dotZ (unitR ps.length first) ρ = ρ.getD first 0 := by
  unfold unitR
  rw [dot_set _ _ _ _ (by unfold zeroR; rw [List.length_replicate]; exact hf) (by unfold zeroR; rw [List.length_replicate, hl]), dot_zero, zero_at]
  omega
theorem unit_len {m : Nat} : (unitR m first).length = m := by unfold unitR zeroR; rw [List.length_set, List.length_replicate]
theorem unit_ev {m : Nat} : ((List.range m).map fun r => PyData.int (if r = first then 1 else 0)) = (unitR m first).map PyData.int := by
  have e : unitR m first = (List.range m).map fun r => if r = first then (1 : Int) else 0 := by
    apply List.ext_getElem?
    intro i
    unfold unitR zeroR
    by_cases h : i < m
    · rw [List.getElem?_map, List.getElem?_range h]
      by_cases e : i = first
      · subst e
        rw [List.getElem?_set_self (by rw [List.length_replicate]; exact h)]; simp
      · rw [List.getElem?_set_ne (Ne.symm e), List.getElem?_replicate, if_pos h]; simp [e]
    · rw [List.getElem?_eq_none (by rw [List.length_set, List.length_replicate]; omega), List.getElem?_eq_none (by rw [List.length_map, List.length_range]; omega)]
  rw [e, List.map_map]; rfl
theorem RI.init (F : Fm n ps) (hf : first < ps.length) (hb : b < n) (hab : b ≠ a) : RI n ps first a b 0 ([], [⟨unitR ps.length first, b, [b]⟩]) := by
  refine ⟨fun w hw => ?_, fun g hg => (by cases hg), ?_, fun _ => ?_⟩
  · rw [List.mem_singleton] at hw
    subst hw
    refine ⟨⟨unit_len, .head _, nd1 _, fun d hd => by rw [List.mem_singleton] at hd; subst hd; exact ⟨hb, hab⟩, fun r h1 h2 h3 => ?_, fun ρ h hl _ => ?_, fun h => ?_⟩, rfl⟩
    · exfalso
      apply h3
      show (unitR ps.length first).getD r 0 = 0
      unfold unitR
      rw [List.getD_eq_getElem?_getD, List.getElem?_set_ne (by omega), ← List.getD_eq_getElem?_getD, zero_at]
    · show dotZ (unitR ps.length first) ρ = _ + h b - h b
      rw [unit_dot hf hl]; omega
    · exact absurd h (by show ¬ 2 ≤ 1; decide)
  · show 0 + 1 * _ ≤ _
    omega
  · refine ⟨fun c => c = b, rfl, fun z => hab z.symm, fun w hw d hd => ?_, fun c hc => .inl ⟨_, .head _, hc.symm⟩⟩
    rw [List.mem_singleton] at hw
    subst hw
    exact List.mem_singleton.mp hd
/-- nothing leads back to a -/
def Shut (ps : List (Nat × Nat)) (first a b : Nat) : Prop := ∃ T : Nat → Prop, T b ∧ ¬ T a ∧ ∀ r, first < r → r < ps.length → (T (ps.getD r (0, 0)).1 ↔ T (ps.getD r (0, 0)).2)
theorem b_rings_eq : b_rings_from = fSeq (sTo (gTp 2 (gAC (gSet 2) (gAC (gSet 3) gAN))) (f2 itemD (f2 itemD (gw 0) (fun _ => mp (.int 1))) (gw 1))) (fSeq (sSet 5 (fc tupleD (fCons (lcF (fR1 (fCons (fc lenD (fCons (f2 itemD (gw 0) (fun _ => mp (.int 1))) fNil)) fNil)) (gSet 4) (fun _ => mp true) (fc intD (fCons (f2 eqD (gw 4) (gw 1)) fNil)) [4]) fNil))) (fSeq (fIf (fB (f2 eqD (gw 2) (gw 3))) (sRet (fc lstD (fCons (gv 5) fNil))) (fun δ => mp (.nx δ))) (fSeq (sPar 6 7 .o .v (fc lstD fNil) (fc lstD (fCons (fc tupD (fCons (gv 5) (fCons (gv 3) (fCons (fc tupD (fCons (gv 3) fNil)) fNil)))) fNil))) (fSeq (whF (fB (f2 neD (gw 7) (fc lstD fNil))) bR fuel_rings_from) (sRet (gw 6)))))) := rfl
theorem sp_rings_from (F : Fm n ps) (hf : first < ps.length) : ∃ f : List (List Int), sem_rings_from [fD n ps, .int (first : Nat)] = some (.list (f.map mD)) ∧ f.length ≤ Kl (ps.length - 1 - first) 0 ∧
    (∀ g ∈ f, RG ps first (ps.getD first (0, 0)).1 (ps.getD first (0, 0)).2 g) ∧ (f = [] → Shut ps first (ps.getD first (0, 0)).1 (ps.getD first (0, 0)).2) := by
  have m7 := F.m7
  have hp := F.lt _ (road_in hf)
  have e1 : sTo (gTp 2 (gAC (gSet 2) (gAC (gSet 3) gAN))) (f2 itemD (f2 itemD (gw 0) (fun _ => mp (.int 1))) (gw 1)) [.val (fD n ps), .val (.int (first : Nat)), .nil, .nil, .nil, .nil, .nil, .nil, .nil, .nil, .nil, .nil, .nil, .nil, .nil, .nil]
      = mp (.nx [.val (fD n ps), .val (.int (first : Nat)), .val (.int ((ps.getD first (0, 0)).1 : Nat)), .val (.int ((ps.getD first (0, 0)).2 : Nat)), .nil, .nil, .nil, .nil, .nil, .nil, .nil, .nil, .nil, .nil, .nil, .nil]) :=
    evTo (ev2 (ev2 rfl rfl (fD1 n ps)) rfl (p_at hf)) rfl
  have e2 : fc tupleD (fCons (lcF (fR1 (fCons (fc lenD (fCons (f2 itemD (gw 0) (fun _ => mp (.int 1))) fNil)) fNil)) (gSet 4) (fun _ => mp true) (fc intD (fCons (f2 eqD (gw 4) (gw 1)) fNil)) [4]) fNil) [.val (fD n ps), .val (.int (first : Nat)), .val (.int ((ps.getD first (0, 0)).1 : Nat)), .val (.int ((ps.getD first (0, 0)).2 : Nat)), .nil, .nil, .nil, .nil, .nil, .nil, .nil, .nil, .nil, .nil, .nil, .nil]
      = mp (mD (unitR ps.length first)) := by
    refine evc (evCons (evLc0 (enc := fun i : Nat => PyData.int (i : Nat)) (zs := List.range ps.length) (fun r => PyData.int (if r = first then 1 else 0)) ((evR1 (n := ps.length) (evCons (evc (evCons (ev2 rfl rfl (fD1 n ps)) evNil) ((len_t _).trans (by rw [List.length_map]))) evNil) (small16 (by omega))).trans (by rw [rng0])) rfl fun r _ => ⟨_, rfl, ?_⟩) evNil) ?_
    · refine evc (evCons (ev2 rfl rfl (eq_nat _ _)) evNil) ((int_bl _).trans ?_)
      by_cases z : r = first
      · rw [decide_eq_true z, if_pos z]; rfl
      · rw [decide_eq_false z, if_neg z]; rfl
    · rw [tup_l (by rw [List.length_map, List.length_range]; omega), unit_ev]; rfl
  by_cases hab : (ps.getD first (0, 0)).1 = (ps.getD first (0, 0)).2
  · refine ⟨[unitR ps.length first], ?_, Kl_pos _ _, fun g hg => ?_, fun z => (by cases z)⟩
    · refine evRun ?_
      rw [b_rings_eq]
      refine evSeq e1 (evSeq (evSet e2) (evSeqR (evIfT (evB (ev2 rfl rfl ((eq_nat _ _).trans (by rw [decide_eq_true hab])))) (evRet (evc (evCons rfl evNil) (lst_ok (small16 (by show 1 ≤ 65536; decide))))))))
    · rw [List.mem_singleton] at hg
      subst hg
      refine ⟨unit_len, fun ρ h hl _ => ?_⟩
      rw [unit_dot hf hl, hab]; omega
  · have R0 := RI.init F hf hp.2 (fun z => hab z.symm) (a := (ps.getD first (0, 0)).1)
    obtain ⟨f, j, er, Rf⟩ := rings_run F hf hp.1 fuel_rings_from 0 _ R0 (by omega) (by show 5 ≤ 12 + 0; decide)
    obtain ⟨δ', e3, i', Ri, _, x4, x5, x8, x9, x10, x11, x12, x13, e4⟩ := whF_pure (c := fB (f2 neD (gw 7) (fc lstD fNil))) (b := bR) (rep := fun s δ => ∃ i, RI n ps first (ps.getD first (0, 0)).1 (ps.getD first (0, 0)).2 i s ∧ i ≤ 4 ∧ ∃ x4 x5 x8 x9 x10 x11 x12 x13, δ = stL n ps first (ps.getD first (0, 0)).1 (ps.getD first (0, 0)).2 s x4 x5 x8 x9 x10 x11 x12 x13) condR (lapR ps first (ps.getD first (0, 0)).1) (fun s δ ⟨i, R, hi, x4, x5, x8, x9, x10, x11, x12, x13, e⟩ => by
      subst e
      refine ⟨evB (ev2 rfl (evc evNil (lst_ok (Nat.zero_le _))) ((ne_nil _).trans (by rw [isEmpty_map]; rfl))), fun hc => ?_⟩
      obtain ⟨y4, y5, y8, y9, y10, y11, y12, y13, e5, R', hi'⟩ := rlap F hf hp.1 R hc x4 x5 x8 x9 x10 x11 x12 x13
      exact ⟨_, e5, i + 1, R', by omega, _, _, _, _, _, _, _, _, rfl⟩) fuel_rings_from _ (f, []) (stL n ps first (ps.getD first (0, 0)).1 (ps.getD first (0, 0)).2 ([], [⟨unitR ps.length first, (ps.getD first (0, 0)).2, [(ps.getD first (0, 0)).2]⟩]) .nil (.val (mD (unitR ps.length first))) .nil .nil .nil .nil .nil .nil) ⟨0, R0, by omega, _, _, _, _, _, _, _, _, rfl⟩ er
    subst e4
    refine ⟨f, ?_, ?_, Rf.fnd, fun z => ?_⟩
    · refine evRun ?_
      rw [b_rings_eq]
      refine evSeq e1 (evSeq (evSet e2) (evSeq (evIfF (evB (ev2 rfl rfl ((eq_nat _ _).trans (by rw [decide_eq_false hab])))) rfl) (evSeq (evPar (k1 := .o) (k2 := .v) (a := .list []) (b := .list [wyD ⟨unitR ps.length first, (ps.getD first (0, 0)).2, [(ps.getD first (0, 0)).2]⟩]) (evc evNil (lst_ok (Nat.zero_le _)))
        (evc (evCons (evc (evCons rfl (evCons rfl (evCons (evc (evCons rfl evNil) (tup_ok (small16 (by show 1 ≤ 65536; decide)))) evNil))) (tup3 _ _ _)) evNil) (lst_ok (small16 (by show 1 ≤ 65536; decide))))) (evSeq e3 (evRet rfl)))))
    · have := Rf.pot
      rw [show (f, ([] : List Wy)).2.length = 0 from rfl, Nat.zero_mul, Nat.add_zero] at this
      exact this
    · obtain ⟨G, g1, g2, _, g4⟩ := Rf.gh z
      have cl : ∀ c, G c → ∀ r, first < r → r < ps.length → ((ps.getD r (0, 0)).1 = c → G (ps.getD r (0, 0)).2) ∧ ((ps.getD r (0, 0)).2 = c → G (ps.getD r (0, 0)).1) := fun c hc => by
        rcases g4 c hc with ⟨w, hw, _⟩ | h
        · cases hw
        · exact h
      exact ⟨G, g1, g2, fun r h1 h2 => ⟨fun hg => (cl _ hg r h1 h2).1 rfl, fun hg => (cl _ hg r h1 h2).2 rfl⟩⟩
end
end VL

/-! Y24: all simple rings; rings against cuts. -/
namespace VL
open PySem PySem.Spec PyProof.Rows L2

section
variable {n : Nat} {ps : List (Nat × Nat)}
open Classical in
noncomputable def ringsBy (n : Nat) (ps : List (Nat × Nat)) (first : Nat) : List (List Int) :=
  if h : ∃ f : List (List Int), sem_rings_from [fD n ps, .int (first : Nat)] = some (.list (f.map mD)) then h.choose else []
theorem map_mD_inj : ∀ {f g : List (List Int)}, f.map mD = g.map mD → f = g
  | [], [], _ => rfl
  | [], _ :: _, h => by cases h
  | _ :: _, [], h => by cases h
  | x :: f, y :: g, h => by
    rw [List.map_cons, List.map_cons] at h
    obtain ⟨h1, h2⟩ := List.cons.inj h
    rw [mD_inj h1, map_mD_inj h2]
theorem sp_rings_by (F : Fm n ps) {first : Nat} (hf : first < ps.length) : sem_rings_from [fD n ps, .int (first : Nat)] = some (.list ((ringsBy n ps first).map mD)) ∧ (ringsBy n ps first).length ≤ Kl (ps.length - 1 - first) 0 ∧
    (∀ g ∈ ringsBy n ps first, RG ps first (ps.getD first (0, 0)).1 (ps.getD first (0, 0)).2 g) ∧ (ringsBy n ps first = [] → Shut ps first (ps.getD first (0, 0)).1 (ps.getD first (0, 0)).2) := by
  obtain ⟨f, h1, h2, h3, h4⟩ := sp_rings_from F hf
  have hx : ∃ f : List (List Int), sem_rings_from [fD n ps, .int (first : Nat)] = some (.list (f.map mD)) := ⟨f, h1⟩
  have e : ringsBy n ps first = f := by
    unfold ringsBy
    rw [dif_pos hx]
    have := h1.symm.trans hx.choose_spec
    injection this with this
    injection this with this
    exact (map_mD_inj this).symm
  rw [e]
  exact ⟨h1, h2, h3, h4⟩
def SS (m i : Nat) : Nat := ((List.range i).map fun j => Kl (m - 1 - j) 0).sum
theorem SS_2000 : ∀ m, m < 8 → ∀ i, i < m + 1 → SS m i ≤ 2000 := by decide
theorem SS_succ (m i : Nat) : SS m (i + 1) = SS m i + Kl (m - 1 - i) 0 := by unfold SS; rw [List.range_succ, List.map_append, List.sum_append]; simp
noncomputable def ringsU (n : Nat) (ps : List (Nat × Nat)) : List (List Int) := (List.range ps.length).flatMap (ringsBy n ps)
noncomputable def rings (n : Nat) (ps : List (Nat × Nat)) : List (List Int) := (ringsU n ps ++ (ringsU n ps).map negZ).mergeSort leI
def bSR : Fx Flow := (fSeq (sExt 1 (fCall 2 sem_rings_from (fCons (gv 0) (fCons (gv 2) fNil)))) (fIf (fB (f2 gtD (fc lenD (fCons (gw 1) fNil)) (fun _ => mp (.int 2000)))) (fun _ => m0) (fun δ => mp (.nx δ))))
theorem sp_simple_ring_rows (F : Fm n ps) : sem_simple_ring_rows [fD n ps] = some (.tuple ((rings n ps).map mD)) ∧ (rings n ps).length ≤ 4000 := by
  have m7 := F.m7
  have big := small16 (show 5000 ≤ 65536 by decide)
  obtain ⟨δ', e1, hs, hlen, x2, e2⟩ := forF_idx (g := gSet 2) (b := bSR) (enc := fun i : Nat => PyData.int (i : Nat)) (rep := fun i s δ => s.length ≤ SS ps.length i ∧ (∀ g ∈ s, g.length = ps.length) ∧ ∃ x2, δ = [.val (fD n ps), .own (.list (s.map mD)), x2, .nil])
    (step := fun (s : List (List Int)) r => s ++ ringsBy n ps r) (List.range ps.length) 0 (fun j s r δ hj ⟨hs, hg, x2, e⟩ => by
      subst e
      have hjl : j < ps.length := by have := (List.getElem?_eq_some_iff.mp hj).1; rw [List.length_range] at this; exact this
      have hrj : r = j := by rw [List.getElem?_range hjl] at hj; exact (Option.some.inj hj).symm
      subst hrj
      obtain ⟨h1, h2, h3, _⟩ := sp_rings_by F hjl
      have s1 := SS_2000 ps.length (by omega) (0 + r + 1) (by omega)
      have s2 := SS_succ ps.length r
      rw [show 0 + r + 1 = r + 1 by omega] at s1 ⊢
      rw [show 0 + r = r by omega] at hs
      refine ⟨_, [.val (fD n ps), .own (.list ((s ++ ringsBy n ps r).map mD)), .val (.int (r : Nat)), .nil], rfl, ?_, by rw [List.length_append]; omega, fun g hg' => ?_, _, rfl⟩
      · unfold bSR
        refine evSeq (δ' := [.val (fD n ps), .own (.list ((s ++ ringsBy n ps r).map mD)), .val (.int (r : Nat)), .nil]) (evExt (evCall (evCons rfl (evCons rfl evNil)) rfl h1) ((extD_at (ds := s.map mD) rfl (by rw [List.length_map, List.length_map]; omega)).trans (by rw [List.map_append]; rfl))) ?_
        refine evIfF (evB (ev2 (evc (evCons rfl evNil) (len_l _)) rfl ?_)) rfl
        rw [List.length_map, List.length_append]
        show some (PyData.bool (decide ((((s.length + (ringsBy n ps r).length : Nat)) : Int) > 2000))) = _
        rw [decide_eq_false (by omega)]
      · rcases List.mem_append.mp hg' with z | z
        · exact hg g z
        · exact (h3 g z).1) [] [.val (fD n ps), .own (.list []), .nil, .nil] ⟨Nat.zero_le _, fun g hg => (by cases hg), _, rfl⟩
  subst e2
  rw [foldl_flat (ringsBy n ps), List.nil_append, List.length_range, Nat.zero_add] at hs
  rw [foldl_flat (ringsBy n ps), List.nil_append] at e1 hlen
  have s1 := SS_2000 ps.length (by omega) ps.length (by omega)
  have hul : (ringsU n ps).length ≤ 2000 := Nat.le_trans hs s1
  have hgl : ∀ g ∈ ringsU n ps, g.length = ps.length := hlen
  have hrl : (rings n ps).length ≤ 4000 := by
    unfold rings
    rw [List.length_mergeSort, List.length_append, List.length_map]; omega
  refine ⟨?_, hrl⟩
  refine evRun (evSeq (evOwn (evc evNil (lst_ok (Nat.zero_le _)))) (evSeq (evFor ((evR1 (n := ps.length) (evCons (evc (evCons (ev2 rfl rfl (fD1 n ps)) evNil) ((len_t _).trans (by rw [List.length_map]))) evNil) (by omega)).trans (by rw [rng0])) e1)
    (evFrz rfl (evRet (evc (evCons (evc (xs := [.list ((ringsU n ps ++ (ringsU n ps).map negZ).map mD)]) (evCons (ev2 rfl (evLc0 (enc := mD) (zs := ringsU n ps) (fun g => mD (negZ g)) (evSq rfl (seq_l (by rw [List.length_map]; show (ringsU n ps).length ≤ _; omega))) rfl fun g hg => ⟨_, rfl, evCall (evCons rfl evNil) rfl (sp_turned_row (by rw [hgl g hg]; omega))⟩) ?_) evNil) (sortD_rows (by rw [List.length_append, List.length_map]; omega))) evNil) ?_)))))
  · show (if ((ringsU n ps).map mD).length + ((ringsU n ps).map fun g => mD (negZ g)).length ≤ sizeLine then some (PyData.list ((ringsU n ps).map mD ++ (ringsU n ps).map fun g => mD (negZ g))) else none) = _
    rw [if_pos (by rw [List.length_map, List.length_map]; omega), List.map_append, List.map_map]; rfl
  · exact tup_l (by rw [List.length_map]; show (rings n ps).length ≤ _; omega)
/-! ### rings against cuts -/
theorem dot_neg : ∀ (g ρ : List Int), dotZ (negZ g) ρ = - dotZ g ρ
  | [], _ => rfl
  | x :: g, [] => by unfold dotZ negZ; rfl
  | x :: g, y :: ρ => by
    have ih := dot_neg g ρ
    unfold dotZ negZ at *
    rw [List.map_cons, List.zipWith_cons_cons, List.zipWith_cons_cons, List.sum_cons, List.sum_cons, ih, Int.neg_mul]
    omega
theorem mem_rings {g : List Int} : g ∈ rings n ps ↔ ∃ f, f < ps.length ∧ (g ∈ ringsBy n ps f ∨ ∃ g', g' ∈ ringsBy n ps f ∧ g = negZ g') := by
  unfold rings ringsU
  rw [List.mem_mergeSort, List.mem_append, List.mem_flatMap, List.mem_map]
  constructor
  · rintro (⟨f, h1, h2⟩ | ⟨g', h1, rfl⟩)
    · exact ⟨f, List.mem_range.mp h1, .inl h2⟩
    · obtain ⟨f, h2, h3⟩ := List.mem_flatMap.mp h1
      exact ⟨f, List.mem_range.mp h2, .inr ⟨g', h3, rfl⟩⟩
  · rintro ⟨f, h1, h2 | ⟨g', h2, rfl⟩⟩
    · exact .inl ⟨f, List.mem_range.mpr h1, h2⟩
    · exact .inr ⟨g', List.mem_flatMap.mpr ⟨f, List.mem_range.mpr h1, h2⟩, rfl⟩
theorem rings_len (F : Fm n ps) {g : List Int} (h : g ∈ rings n ps) : g.length = ps.length := by
  obtain ⟨f, hf, h2⟩ := mem_rings.mp h
  obtain ⟨_, _, h3, _⟩ := sp_rings_by F hf
  rcases h2 with h2 | ⟨g', h2, rfl⟩
  · exact (h3 g h2).1
  · rw [negZ_len]; exact (h3 g' h2).1
theorem rings_cut (F : Fm n ps) {ρ : List Int} (hl : ρ.length = ps.length) : (∀ g ∈ rings n ps, dotZ g ρ = 0) ↔ isCut ps ρ := by
  constructor
  · intro h0
    have step : ∀ k, k ≤ ps.length → ∃ h : Nat → Int, ∀ r, ps.length - k ≤ r → r < ps.length → ρ.getD r 0 = h (ps.getD r (0, 0)).2 - h (ps.getD r (0, 0)).1 := fun k => by
      induction k with
      | zero => exact fun _ => ⟨fun _ => 0, fun r h1 h2 => absurd h2 (by omega)⟩
      | succ k ih =>
        intro hk
        obtain ⟨h, hh⟩ := ih (by omega)
        let f := ps.length - (k + 1)
        have hf : f < ps.length := by show ps.length - (k + 1) < _; omega
        have hr : Ris ps f ρ h := fun r h1 h2 => hh r (by have : ps.length - (k + 1) < r := h1; omega) h2
        obtain ⟨_, _, h3, h4⟩ := sp_rings_by F hf
        by_cases z : ringsBy n ps f = []
        · obtain ⟨T, t1, t2, t3⟩ := h4 z
          classical
          refine ⟨fun c => h c + (if T c then ρ.getD f 0 - (h (ps.getD f (0, 0)).2 - h (ps.getD f (0, 0)).1) else 0), fun r h1 h2 => ?_⟩
          by_cases e : r = f
          · subst e
            dsimp only
            rw [if_pos t1, if_neg t2]; omega
          · have h5 : f < r := by show ps.length - (k + 1) < r; have : r ≠ ps.length - (k + 1) := e; omega
            have h6 := hr r h5 h2
            have h7 := t3 r h5 h2
            dsimp only
            by_cases q : T (ps.getD r (0, 0)).1
            · rw [if_pos q, if_pos (h7.mp q), h6]; omega
            · rw [if_neg q, if_neg fun y => q (h7.mpr y), h6]; omega
        · obtain ⟨g, hg⟩ := List.exists_mem_of_ne_nil _ z
          have e1 := (h3 g hg).2 ρ h hl hr
          have e2 := h0 g (mem_rings.mpr ⟨f, hf, .inl hg⟩)
          refine ⟨h, fun r h1 h2 => ?_⟩
          by_cases e : r = f
          · subst e; omega
          · exact hr r (by show ps.length - (k + 1) < r; have : r ≠ ps.length - (k + 1) := e; omega) h2
    obtain ⟨h, hh⟩ := step ps.length (Nat.le_refl _)
    exact ⟨h, fun r hr => hh r (by omega) hr⟩
  · rintro ⟨h, hh⟩ g hg
    obtain ⟨f, hf, h2⟩ := mem_rings.mp hg
    obtain ⟨_, _, h3, _⟩ := sp_rings_by F hf
    have key : ∀ g' ∈ ringsBy n ps f, dotZ g' ρ = 0 := fun g' hg' => by
      rw [(h3 g' hg').2 ρ h hl fun r _ h2 => hh r h2, hh f hf]; omega
    rcases h2 with h2 | ⟨g', h2, rfl⟩
    · exact key g h2
    · rw [dot_neg, key g' h2]; rfl
end

end VL

/-! Y25: the drawn frame: it hangs together. -/
namespace VL
open PySem PySem.Spec PyProof.Rows L2
theorem rg1_ok {k : Nat} (h : k ≤ sizeLine) : rgD1 [.int (k : Nat)] = some (rngD 0 k) := by
  show (if ((k : Nat) : Int) ≤ (sizeLine : Nat) ∧ -(2 ^ 62) ≤ ((k : Nat) : Int) then some (rngD 0 ((k : Nat) : Int).toNat) else none) = _
  rw [if_pos ⟨by omega, by omega⟩, Int.toNat_natCast]
theorem rng1p (k : Nat) : rngD ((1 : Nat) : Int) k = (List.range k).map fun j : Nat => PyData.int ((1 + j : Nat)) := by
  unfold rngD
  apply List.map_congr_left
  intro j _
  rw [Int.natCast_add]
theorem rng0' (k : Nat) : rngD 0 k = (List.range k).map fun j : Nat => PyData.int (j : Nat) := by
  unfold rngD
  apply List.map_congr_left
  intro j _
  rw [Int.zero_add]
def IB (n : Nat) (d : D) : Prop := ∃ i : Nat, d = .int (i : Nat) ∧ i < n
def PP (n : Nat) (d : D) : Prop := ∃ p : Nat × Nat, d = pD p ∧ p.1 < n ∧ p.2 < n
theorem pps_of {n : Nat} : ∀ {ds : List D}, (∀ d ∈ ds, PP n d) → ∃ ps : List (Nat × Nat), ds = ps.map pD ∧ ∀ p ∈ ps, p.1 < n ∧ p.2 < n
  | [], _ => ⟨[], rfl, fun p h => by cases h⟩
  | d :: r, h => by
    obtain ⟨p, rfl, hp⟩ := h d (.head _)
    obtain ⟨ps, rfl, hs⟩ := pps_of fun d hd => h d (.tail _ hd)
    refine ⟨p :: ps, rfl, fun q hq => ?_⟩
    rcases List.mem_cons.mp hq with e | hq
    · subst e; exact hp
    · exact hs q hq
theorem tup2 (a b : D) : tupD [a, b] = some (.tuple [a, b]) := tup_ok (small16 (by show 2 ≤ 65536; decide))
theorem ok_pair {n : Nat} {f g : Fx D} {δ : List Slot} (h1 : Ok (f δ) (IB n)) (h2 : Ok (g δ) (IB n)) : Ok (fc tupD (fCons f (fCons g fNil)) δ) (PP n) :=
  ok_fc (ok_two h1 h2) fun xs ⟨a, b, e, ⟨i, ea, hi⟩, j, eb, hj⟩ => by
    subst e ea eb
    exact ⟨_, tup2 _ _, (i, j), rfl, hi, hj⟩


/-- so far a tree of the names -/
def Tree (nm : List Nat) (j : Nat) (ds : List D) : Prop := ∀ x, x < j → ∃ k, k ≤ x ∧ pD (nm.getD k 0, nm.getD (1 + x) 0) ∈ ds
theorem pD_inj {p q : Nat × Nat} (h : pD p = pD q) : p = q := by
  unfold pD at h
  injection h with h
  injection h with h1 h2
  injection h2 with h2 _
  injection h1 with h1
  injection h2 with h2
  exact Prod.ext (Int.ofNat.inj h1) (Int.ofNat.inj h2)
theorem perm_map {α β : Type} {f : α → β} {ys : List β} {l : List α} (h : ys.Perm (l.map f)) : ∃ nm : List α, ys = nm.map f ∧ nm.Perm l := by
  generalize hx : l.map f = xs at h
  induction h generalizing l with
  | nil => 
    cases l with
    | nil => exact ⟨[], rfl, .refl _⟩
    | cons a r => cases hx
  | cons x _ ih =>
    cases l with
    | nil => cases hx
    | cons a r =>
      rw [List.map_cons] at hx
      obtain ⟨h1, h2⟩ := List.cons.inj hx
      obtain ⟨nm, e, p⟩ := ih h2
      exact ⟨a :: nm, by rw [List.map_cons, e, h1], p.cons a⟩
  | swap x y l' =>
    match l, hx with
    | a :: b :: r, hx =>
      rw [List.map_cons, List.map_cons] at hx
      obtain ⟨h1, h2⟩ := List.cons.inj hx
      obtain ⟨h2, h3⟩ := List.cons.inj h2
      exact ⟨b :: a :: r, by rw [List.map_cons, List.map_cons, h1, h2, h3], .swap _ _ _⟩
  | trans _ _ ih1 ih2 =>
    obtain ⟨nm, e, p⟩ := ih2 hx
    obtain ⟨nm', e', p'⟩ := ih1 e.symm
    exact ⟨nm', e', p'.trans p⟩
theorem ok_lcGoR {α : Type} {gt : D → List Slot → Option (List Slot)} {e : Fx D} {δ : List Slot} {enc : α → D} {P : α → D → Prop} : ∀ (xs : List α), (∀ x ∈ xs, ∃ δ1, gt (enc x) δ = some δ1 ∧ Ok (e δ1) (P x)) →
    Ok (lcGo gt (fun _ => mp true) e δ (xs.map enc)) (fun ds => ds.length = xs.length ∧ ∀ (i : Nat) x d, xs[i]? = some x → ds[i]? = some d → P x d)
  | [], _ => Ok.mp ⟨rfl, fun i x d h => (by simp at h)⟩
  | x :: xs, h => by
    obtain ⟨δ1, h1, h2⟩ := h x (.head _)
    rw [List.map_cons]
    unfold lcGo
    rw [h1, ml_mp, mb_mp, mb_mp, if_pos rfl]
    refine h2.mb fun d pd => (ok_lcGoR xs fun y hy => h y (.tail _ hy)).mb fun ds ⟨hl, hp⟩ => Ok.mp ⟨by rw [List.length_cons, List.length_cons, hl], fun i y z hy hz => ?_⟩
    cases i with
    | zero =>
      cases hy
      cases hz
      exact pd
    | succ i => exact hp i y z (by simpa using hy) (by simpa using hz)
theorem ok_lcR {α : Type} {fi : Fx (List D)} {gt : D → List Slot → Option (List Slot)} {e : Fx D} {vs : List Nat} {δ : List Slot} {enc : α → D} {W : List α → Prop} {P : α → D → Prop} (hi : Ok (fi δ) (fun ds => ∃ zs : List α, ds = zs.map enc ∧ W zs)) (no : noOwn δ vs = true)
    (h : ∀ zs, W zs → ∀ x ∈ zs, ∃ δ1, gt (enc x) (wipeS δ vs) = some δ1 ∧ Ok (e δ1) (P x)) : Ok (lcF fi gt (fun _ => mp true) e vs δ) (fun d => ∃ ds zs, d = .list ds ∧ W zs ∧ ds.length = zs.length ∧ ∀ (i : Nat) x d, zs[i]? = some x → ds[i]? = some d → P x d) := by
  unfold lcF
  refine hi.mb fun ds ⟨zs, ez, w⟩ => ?_
  subst ez
  rw [if_pos no]
  exact (ok_lcGoR zs (h zs w)).mb fun ds hds => Ok.mp ⟨ds, zs, rfl, w, hds⟩

theorem sp__law_hung {c r : Nat} (hc : 1 ≤ c) (hc6 : c ≤ 5) (hr : r ≤ 7) (hcr : c ≤ r + 1) : Ok (sem__law_hung [.int (c : Nat), .int (r : Nat)]) (fun d => ∃ (n : Nat) (ps : List (Nat × Nat)), d = fD n ps ∧ Fm n ps ∧ Conn n ps) := by
  have sl := sizeLine_eq
  refine ok_runF ?_
  show Ok (b__law_hung [.src, .val (.int (c : Nat)), .val (.int (r : Nat)), .nil, .nil, .nil, .nil, .nil, .nil]) _
  unfold b__law_hung
  refine ok_seqPar (P1 := fun d => ∃ n : Nat, d = .int (n : Nat) ∧ 1 ≤ n ∧ n ≤ c) (P2 := fun d => d = .list []) (ok_2 (P1 := fun d => d = .int 1) (Ok.of rfl rfl) (ok_pickI (m := c) rfl rfl (by omega)) fun a b ea ⟨k, eb, hk⟩ => ?_) (Ok.of (evc evNil (lst_ok (Nat.zero_le _))) rfl) fun a b ⟨n, ea, n1, nc⟩ eb => ?_
  · subst ea eb
    refine ⟨.int ((1 + k : Nat)), ?_, 1 + k, rfl, by omega, by omega⟩
    rw [Int.natCast_add]; rfl
  subst ea eb
  show Ok (fSeq _ _ [.src, .val (.int (c : Nat)), .val (.int (r : Nat)), .val (.int (n : Nat)), .own (.list []), .nil, .nil, .nil, .nil]) _
  refine ok_seqSet (P := fun d => ∃ nm : List Nat, d = .list (nL nm) ∧ nm.Perm (List.range n)) ?_ fun d ⟨nm, ed, hnm⟩ => ?_
  · refine ok_srcI (P := fun ds => ds = [.list (rngD 0 n)]) rfl (Ok.of (evCons (ev1 (a := .int (n : Nat)) rfl ?_) evNil) rfl) fun ds e => ?_
    · show (if rgOk (n : Nat) then some (PyData.list (rngD 0 ((n : Nat) : Int).toNat)) else none) = _
      rw [if_pos (show rgOk ((n : Nat) : Int) = true from decide_eq_true ⟨by omega, by omega⟩), Int.toNat_natCast]
    · subst e
      refine ⟨rfl, (sp__law_mixed (by unfold rngD; rw [List.length_map, List.length_range]; omega)).wk fun d ⟨ys, e, hp⟩ => ?_⟩
      rw [rng0] at hp
      obtain ⟨nm, en, hnm⟩ := perm_map (f := fun i : Nat => PyData.int (i : Nat)) hp
      exact ⟨nm, by rw [e, en]; rfl, hnm⟩
  subst ed
  show Ok (fSeq _ _ [.src, .val (.int (c : Nat)), .val (.int (r : Nat)), .val (.int (n : Nat)), .own (.list []), .val (.list (nL nm)), .nil, .nil, .nil]) _
  have nml : nm.length = n := by rw [hnm.length_eq, List.length_range]
  have nmb : ∀ k, k < n → nm.getD k 0 < n := fun k hk => by
    rw [List.getD_eq_getElem?_getD, List.getElem?_eq_getElem (by omega)]
    exact List.mem_range.mp (hnm.mem_iff.mp (List.getElem_mem _))
  have yat : ∀ k, k < n → itemD (.list (nL nm)) (.int (k : Nat)) = some (.int (nm.getD k 0 : Nat)) := fun k hk => itemL_nat (nL_at (by omega))
  refine ok_seqX (ok_sFor (W := fun xs => xs = List.range (n - 1)) (enc := fun j : Nat => PyData.int ((1 + j : Nat))) (R := fun j δ => ∃ ds y6, δ = [.src, .val (.int (c : Nat)), .val (.int (r : Nat)), .val (.int (n : Nat)), .own (.list ds), .val (.list (nL nm)), y6, .nil, .nil] ∧ ds.length = j ∧ (∀ d ∈ ds, PP n d) ∧ Tree nm j ds)
    (Ok.of (evR2 (l := 1) (n := n) (evCons rfl (evCons rfl evNil)) (by omega) (by omega)) ⟨List.range (n - 1), rng1p _, rfl⟩) ?_ ⟨[], .nil, rfl, rfl, fun d h => (by cases h), fun x h => absurd h (by omega)⟩) fun δ ⟨xs, ex, ds, y6, e, dl, db, tr⟩ => ?_
  · intro xs ex j x δ hx ⟨ds, y6, e, dl, db, tr⟩
    subst ex e
    have hx1 := List.mem_range.mp (List.mem_of_getElem? hx)
    have hj : j < n - 1 := by
      have := (List.getElem?_eq_some_iff.mp hx).1
      rwa [List.length_range] at this
    have hxj : x = j := by rw [List.getElem?_range hj] at hx; exact (Option.some.inj hx).symm
    refine ⟨_, rfl, ?_⟩
    refine (ok_app (P := fun d => ∃ k, k ≤ x ∧ d = pD (nm.getD k 0, nm.getD (1 + x) 0)) (ds := ds) (ok_fc (ok_two (P1 := fun d => ∃ k, k ≤ x ∧ d = .int (nm.getD k 0 : Nat)) (P2 := fun d => d = .int (nm.getD (1 + x) 0 : Nat)) ?_ ?_) fun xs ⟨a, b, e, ⟨k, hk, ea⟩, eb⟩ => by
        subst e ea eb
        exact ⟨_, tup2 _ _, k, hk, rfl⟩) rfl (by omega)).wk fun fl ⟨δ', e, d, ⟨k, hk, pd⟩, e2⟩ => ⟨δ', e, ds ++ [d], .val (.int ((1 + x : Nat))), by rw [e2]; rfl, by rw [List.length_append, dl]; rfl, fun y hy => ?_, fun z hz => ?_⟩
    · exact ok_2 (P1 := fun d => d = .list (nL nm)) (Ok.of rfl rfl) (ok_pickI (m := 1 + x) rfl rfl (by omega)) fun a b ea ⟨k, eb, hk⟩ => by
        subst ea eb
        exact ⟨_, yat k (by omega), k, by omega, rfl⟩
    · refine ok_2 (P1 := fun d => d = .list (nL nm)) (P2 := fun d => d = .int ((1 + x : Nat))) (Ok.of rfl rfl) (Ok.of rfl rfl) fun a b ea eb => ?_
      subst ea eb
      exact ⟨_, yat (1 + x) (by omega), rfl⟩
    · rcases List.mem_append.mp hy with hy | hy
      · exact db y hy
      · rw [List.mem_singleton.mp hy, pd]
        exact ⟨_, rfl, nmb k (by omega), nmb (1 + x) (by omega)⟩
    · by_cases hzj : z < j
      · obtain ⟨k', hk', hm⟩ := tr z hzj
        exact ⟨k', hk', List.mem_append_left _ hm⟩
      · have e3 : z = x := by omega
        subst e3
        exact ⟨k, hk, List.mem_append_right _ (by rw [pd]; exact .head _)⟩
  subst ex e
  rw [List.length_range] at dl tr
  refine ok_seqX (ok_sFor (W := fun xs => xs.length ≤ r + 1 - n) (enc := fun j : Nat => PyData.int (j : Nat)) (R := fun j δ => ∃ ds y7, δ = [.src, .val (.int (c : Nat)), .val (.int (r : Nat)), .val (.int (n : Nat)), .own (.list ds), .val (.list (nL nm)), y6, y7, .nil] ∧ ds.length = n - 1 + j ∧ (∀ d ∈ ds, PP n d) ∧ Tree nm (n - 1) ds)
    ?_ ?_ ⟨ds, .nil, rfl, dl, db, tr⟩) fun δ ⟨xs, ex, ds, y7, e, dl, db, tr⟩ => ?_
  · refine Ok.mb (ok_one (ok_pickI (m := max 1 (r + 2 - n)) rfl (evc (evCons rfl (evCons (a := .int ((r + 2 - n : Nat))) ((ev2 (ev2 rfl rfl rfl) rfl rfl).trans ?_) evNil)) (max1 _)) (by omega))) fun ds ⟨a, e, k, e2, hk⟩ => ?_
    · rw [show ((r + 2 - n : Nat) : Int) = ((r : Nat) : Int) - ((n : Nat) : Int) + 2 by omega]
    · subst e e2
      rw [rg1_ok (by omega)]
      exact Ok.mp ⟨List.range k, rng0' k, by rw [List.length_range]; omega⟩
  · intro xs ex j x δ hx ⟨ds, y7, e, dl, db, tr⟩
    subst e
    have hj := (List.getElem?_eq_some_iff.mp hx).1
    refine ⟨_, rfl, ?_⟩
    refine (ok_app (P := PP n) (ds := ds) (ok_pair ?_ ?_) rfl (by omega)).wk fun fl ⟨δ', e, d, pd, e2⟩ => ⟨δ', e, ds ++ [d], .val (.int (x : Nat)), by rw [e2]; rfl, by rw [List.length_append, dl]; rfl, fun y hy => ?_, fun z hz => (by obtain ⟨k', hk', hm⟩ := tr z hz; exact ⟨k', hk', List.mem_append_left _ hm⟩)⟩
    · exact (ok_pickI (m := n) rfl rfl (by omega)).wk fun d ⟨k, e, hk⟩ => ⟨k, e, by omega⟩
    · exact (ok_pickI (m := n) rfl rfl (by omega)).wk fun d ⟨k, e, hk⟩ => ⟨k, e, by omega⟩
    · rcases List.mem_append.mp hy with hy | hy
      · exact db y hy
      · rw [List.mem_singleton.mp hy]; exact pd
  subst e
  show Ok (fSeq _ _ [.src, .val (.int (c : Nat)), .val (.int (r : Nat)), .val (.int (n : Nat)), .val (.list ds), .val (.list (nL nm)), y6, y7, .nil]) _
  refine ok_seqSet (ok_lcR (W := fun zs => zs.Perm ds) (enc := fun d : D => d) (P := fun x d => ∃ p : Nat × Nat, x = pD p ∧ (p.1 < n ∧ p.2 < n) ∧ (d = pD p ∨ d = pD (p.2, p.1))) ?_ rfl fun zs hz x hx => ?_) fun d ⟨es, zs, ed, hz, el, eb⟩ => ?_
  · refine Ok.mb (P := fun d => ∃ zs, d = .list zs ∧ zs.Perm ds) (ok_srcI (P := fun xs => xs = [.list ds]) rfl (Ok.of (evCons rfl evNil) rfl) fun xs e => ?_) fun d ⟨zs, e, hz⟩ => ?_
    · subst e
      exact ⟨rfl, sp__law_mixed (by omega)⟩
    · subst e
      rw [show seqD (.list zs) = some zs from if_pos (by rw [hz.length_eq]; omega)]
      exact Ok.mp ⟨zs, (List.map_id' _).symm, hz⟩
  · refine ⟨_, rfl, ?_⟩
    obtain ⟨p, rfl, hp⟩ := db x (hz.mem_iff.mp hx)
    refine ok_if (P := fun _ => True) (ok_B (ok_2 (P2 := fun d => d = .int 0) (ok_pickI (m := 2) rfl rfl (by omega)) (Ok.of rfl rfl) fun a b ⟨k, ea, hk⟩ eb => ?_)) (fun _ => ?_) fun _ => ?_
    · subst ea eb
      exact ⟨_, eq_int _ _, _, rfl, trivial⟩
    · exact Ok.of (a := pD (p.2, p.1)) (ev1 rfl rfl) ⟨p, rfl, hp, .inr rfl⟩
    · exact Ok.of (a := pD p) rfl ⟨p, rfl, hp, .inl rfl⟩
  subst ed
  have eP : ∀ d ∈ es, PP n d := fun d hd => by
    obtain ⟨i, hi, e⟩ := List.mem_iff_getElem.mp hd
    obtain ⟨p, _, hp, q⟩ := eb i zs[i] d (List.getElem?_eq_getElem (by omega)) (by rw [List.getElem?_eq_getElem hi, e])
    rcases q with rfl | rfl
    · exact ⟨p, rfl, hp⟩
    · exact ⟨(p.2, p.1), rfl, hp.2, hp.1⟩
  have et : ∀ p : Nat × Nat, pD p ∈ ds → pD p ∈ es ∨ pD (p.2, p.1) ∈ es := fun p hp => by
    obtain ⟨i, hi, e⟩ := List.mem_iff_getElem.mp (hz.mem_iff.mpr hp)
    have hi' : i < es.length := by omega
    obtain ⟨p', e1, _, q⟩ := eb i (pD p) es[i] (by rw [List.getElem?_eq_getElem hi, e]) (List.getElem?_eq_getElem hi')
    have : p' = p := (pD_inj e1).symm
    subst this
    rcases q with q | q
    · exact .inl (q ▸ List.getElem_mem hi')
    · exact .inr (q ▸ List.getElem_mem hi')
  obtain ⟨ps, rfl, hps⟩ := pps_of eP
  refine Ok.wk (ok_ret (Q := fun d => d = fD n ps) (Ok.of (evc (evCons rfl (evCons (evc (evCons rfl evNil) rfl) evNil)) (tup2 _ _)) rfl)) fun fl hf => ?_
  obtain ⟨d, e, e2⟩ := hf
  refine ⟨d, e, n, ps, e2, ⟨n1, by omega, ?_, hps⟩, ?_⟩
  · rw [List.length_map] at el
    rw [el, hz.length_eq, dl]
    omega
  · intro S h0 hS
    have mem_of : ∀ p : Nat × Nat, pD p ∈ ps.map pD → p ∈ ps := fun p hp => by
      obtain ⟨q, hq, e⟩ := List.mem_map.mp hp
      exact pD_inj e ▸ hq
    have hnext : ∀ x, x < n - 1 → ∃ k, k ≤ x ∧ (S (nm.getD k 0) ↔ S (nm.getD (1 + x) 0)) := fun x hx => by
      obtain ⟨k, hk, hm⟩ := tr x hx
      rcases et _ hm with q | q
      · exact ⟨k, hk, hS _ (mem_of _ q)⟩
      · exact ⟨k, hk, (hS _ (mem_of _ q)).symm⟩
    have all : ∀ x, x < n → (S (nm.getD x 0) ↔ S (nm.getD 0 0)) := fun x => by
      induction x using Nat.strongRecOn with
      | _ x ih =>
        intro hx
        match x, ih, hx with
        | 0, _, _ => exact Iff.rfl
        | x + 1, ih, hx =>
          obtain ⟨k, hk, hi⟩ := hnext x (by omega)
          rw [show 1 + x = x + 1 by omega] at hi
          exact hi.symm.trans (ih k (by omega) (by omega))
    have at_ : ∀ c, c < n → ∃ x, x < n ∧ nm.getD x 0 = c := fun c hc => by
      obtain ⟨x, hx, e⟩ := List.mem_iff_getElem.mp (hnm.mem_iff.mpr (List.mem_range.mpr hc))
      refine ⟨x, by omega, ?_⟩
      rw [List.getD_eq_getElem?_getD, List.getElem?_eq_getElem hx, e]; rfl
    intro c hc
    obtain ⟨x, hx, e⟩ := at_ c hc
    obtain ⟨x0, hx0, e0⟩ := at_ 0 (by omega)
    rw [← e]
    rw [← e0] at h0
    exact (all x hx).mpr ((all x0 hx0).mp h0)

end VL

/-! Y26: what can be shown (taken over from k53); slices. -/
namespace VL
open PySem PySem.Spec PyProof.Rows L2
mutual
/-- small leaves; dicts are empty -/
def gD (B : Nat) : PyData → Bool
  | .none | .bool _ => true
  | .int i => decide (i.natAbs ≤ B)
  | .str x => x.cps.toList.all fun c => decide (c < 16 ^ 8)
  | .list xs | .tuple xs => gDA B xs
  | .dict kvs => kvs.isEmpty
def gDA (B : Nat) : List PyData → Bool
  | [] => true
  | x :: xs => gD B x && gDA B xs
end
theorem int_len {i : Int} (h : i.natAbs ≤ 10000000) : (PyData.int i).shown.length ≤ 13 := by
  have h2 : i.natAbs < 10 ^ 8 := by omega
  have e := int_text_length_le10 (k := 8) (by decide) h2
  rw [PyData.shown_int]
  have : ((toString i : String) : Str).length = (toString i).length := PySem.ofString_length _
  omega
theorem int_show {i : Int} (h : i.natAbs ≤ 10000000) : (PyData.int i).showable = true := by
  simp only [PyData.showable]
  refine decide_eq_true ?_
  by_cases h0 : i.natAbs = 0
  · rw [h0]; decide
  · exact Nat.lt_trans ((Nat.log2_lt h0).mpr (show i.natAbs < 2 ^ 24 by omega)) (by decide)
mutual
theorem gD_ok {B : Nat} (hB : B ≤ 10000000) : ∀ d : PyData, gD B d = true → d.showable = true ∧ d.leavesShort 13 = true
  | .none, _ => ⟨by simp only [PyData.showable], by simp only [PyData.leavesShort]⟩
  | .bool b, _ => ⟨by simp only [PyData.showable], by simp only [PyData.leavesShort]⟩
  | .int i, h => by
    have h' : i.natAbs ≤ B := by simpa only [gD, decide_eq_true_eq] using h
    exact ⟨int_show (by omega), by
      simp only [PyData.leavesShort]
      exact decide_eq_true (int_len (by omega))⟩
  | .str x, h => ⟨by simp only [PyData.showable], by simpa only [gD, PyData.leavesShort] using h⟩
  | .list xs, h => by
    have := gDA_ok hB xs (by simpa only [gD] using h)
    exact ⟨by simpa only [PyData.showable] using this.1, by simpa only [PyData.leavesShort] using this.2⟩
  | .tuple xs, h => by
    have := gDA_ok hB xs (by simpa only [gD] using h)
    exact ⟨by simpa only [PyData.showable] using this.1, by simpa only [PyData.leavesShort] using this.2⟩
  | .dict kvs, h => by
    have h' : kvs = [] := by simpa only [gD, List.isEmpty_iff] using h
    subst h'
    exact ⟨by simp only [PyData.showable, PyData.showableKv], by simp only [PyData.leavesShort, PyData.leavesShortKv]⟩
theorem gDA_ok {B : Nat} (hB : B ≤ 10000000) : ∀ xs : List PyData, gDA B xs = true → PyData.showableAll xs = true ∧ PyData.leavesShortAll 13 xs = true
  | [], _ => ⟨by simp only [PyData.showableAll], by simp only [PyData.leavesShortAll]⟩
  | x :: xs, h => by
    have h' : gD B x = true ∧ gDA B xs = true := by simpa only [gDA, Bool.and_eq_true] using h
    have h1 := gD_ok hB x h'.1
    have h2 := gDA_ok hB xs h'.2
    exact ⟨by simp only [PyData.showableAll, h1.1, h2.1, Bool.and_self], by simp only [PyData.leavesShortAll, h1.2, h2.2, Bool.and_self]⟩
end
theorem gDA_all {B : Nat} : ∀ {xs : List PyData}, gDA B xs = true ↔ ∀ x ∈ xs, gD B x = true
  | [] => ⟨fun _ x h => (by cases h), fun _ => by simp only [gDA]⟩
  | x :: xs => by
    simp only [gDA, Bool.and_eq_true]
    rw [gDA_all (xs := xs)]
    exact ⟨fun ⟨a, b⟩ y hy => (List.mem_cons.mp hy).elim (fun e => e ▸ a) (b y), fun h => ⟨h x (.head _), fun y hy => h y (.tail _ hy)⟩⟩
theorem nodict_all : ∀ {xs : List PyData}, PyData.hasDictAll xs = false ↔ ∀ x ∈ xs, x.hasDict = false
  | [] => ⟨fun _ x h => (by cases h), fun _ => by simp only [PyData.hasDictAll]⟩
  | x :: xs => by
    simp only [PyData.hasDictAll, Bool.or_eq_false_iff]
    rw [nodict_all (xs := xs)]
    exact ⟨fun ⟨a, b⟩ y hy => (List.mem_cons.mp hy).elim (fun e => e ▸ a) (b y), fun h => ⟨h x (.head _), fun y hy => h y (.tail _ hy)⟩⟩
theorem nolist_all : ∀ {xs : List PyData}, noListA xs = true ↔ ∀ x ∈ xs, noList x = true
  | [] => ⟨fun _ x h => (by cases h), fun _ => by simp only [noListA]⟩
  | x :: xs => by
    simp only [noListA, Bool.and_eq_true]
    rw [nolist_all (xs := xs)]
    exact ⟨fun ⟨a, b⟩ y hy => (List.mem_cons.mp hy).elim (fun e => e ▸ a) (b y), fun h => ⟨h x (.head _), fun y hy => h y (.tail _ hy)⟩⟩
theorem depth_all {k : Nat} : ∀ {xs : List PyData}, PyData.depthAll xs ≤ k ↔ ∀ x ∈ xs, x.depth ≤ k
  | [] => ⟨fun _ x h => (by cases h), fun _ => by simp only [PyData.depthAll]; omega⟩
  | x :: xs => by
    simp only [PyData.depthAll, Nat.max_le]
    rw [depth_all (xs := xs)]
    exact ⟨fun ⟨a, b⟩ y hy => (List.mem_cons.mp hy).elim (fun e => e ▸ a) (b y), fun h => ⟨h x (.head _), fun y hy => h y (.tail _ hy)⟩⟩
abbrev wtA (ds : List D) : Nat := PyData.weightAll ds
theorem wt_nil : wtA [] = 0 := by unfold wtA; simp only [PyData.weightAll]
theorem wt_cons (d : D) (r : List D) : wtA (d :: r) = d.weight + 1 + wtA r := by unfold wtA; simp only [PyData.weightAll]
theorem wt_app : ∀ (a b : List D), wtA (a ++ b) = wtA a + wtA b
  | [], b => by rw [List.nil_append, wt_nil, Nat.zero_add]
  | d :: r, b => by rw [List.cons_append, wt_cons, wt_cons, wt_app r b]; omega
theorem wt_perm {a b : List D} (h : a.Perm b) : wtA a = wtA b := by
  induction h with
  | nil => rfl
  | cons x _ ih => rw [wt_cons, wt_cons, ih]
  | swap x y l => rw [wt_cons, wt_cons, wt_cons, wt_cons]; omega
  | trans _ _ ih1 ih2 => exact ih1.trans ih2
theorem wt_sub {a b : List D} (h : a.Sublist b) : wtA a ≤ wtA b := by
  induction h with
  | slnil => exact Nat.le_refl _
  | cons x _ ih => rw [wt_cons]; omega
  | cons_cons x _ ih => rw [wt_cons, wt_cons]; omega
theorem wt_len (a : List D) : a.length ≤ wtA a := PyData.length_le_weightAll a
theorem wt_mem {a : List D} {x : D} (h : x ∈ a) : x.weight ≤ wtA a := PyData.weight_le_weightAll a x h
theorem wt_le {c : Nat} : ∀ {a : List D}, (∀ x ∈ a, x.weight + 1 ≤ c) → wtA a ≤ c * a.length
  | [], _ => by rw [wt_nil]; omega
  | x :: a, h => by
    have h1 := h x (.head _)
    have h2 := wt_le fun y hy => h y (.tail _ hy)
    rw [wt_cons, List.length_cons, Nat.mul_succ]
    omega
theorem w_tup (ds : List D) : (PyData.tuple ds).weight = wtA ds := by simp only [PyData.weight]
theorem w_lst (ds : List D) : (PyData.list ds).weight = wtA ds := by simp only [PyData.weight]
/-- clean: neither list nor dict within -/
structure Cl (B W k : Nat) (d : D) : Prop where
  g : gD B d = true
  nd : d.hasDict = false
  nl : noList d = true
  w : d.weight ≤ W
  k : d.depth ≤ k
/-- not both list and dict within -/
structure Bt (B W k : Nat) (d : D) : Prop where
  g : gD B d = true
  fl : d.hasDict = false ∨ noList d = true
  w : d.weight ≤ W
  k : d.depth ≤ k
theorem Cl.bt {B W k : Nat} {d : D} (c : Cl B W k d) : Bt B W k d := ⟨c.g, .inl c.nd, c.w, c.k⟩
mutual
theorem gD_mono {B B' : Nat} (h : B ≤ B') : ∀ d : D, gD B d = true → gD B' d = true
  | .none, _ => by simp only [gD]
  | .bool b, _ => by simp only [gD]
  | .int i, e => by
    have h' : i.natAbs ≤ B := by simpa only [gD, decide_eq_true_eq] using e
    simp only [gD]
    exact decide_eq_true (by omega)
  | .str x, e => by simpa only [gD] using e
  | .list xs, e => by
    simp only [gD] at e ⊢
    exact gDA_mono h xs e
  | .tuple xs, e => by
    simp only [gD] at e ⊢
    exact gDA_mono h xs e
  | .dict kvs, e => by simpa only [gD] using e
theorem gDA_mono {B B' : Nat} (h : B ≤ B') : ∀ xs : List D, gDA B xs = true → gDA B' xs = true
  | [], _ => by simp only [gDA]
  | x :: xs, e => by
    simp only [gDA, Bool.and_eq_true] at e ⊢
    exact ⟨gD_mono h x e.1, gDA_mono h xs e.2⟩
end
theorem Cl.mono {B B' W W' k k' : Nat} {d : D} (c : Cl B W k d) (h1 : B ≤ B') (h2 : W ≤ W') (h3 : k ≤ k') : Cl B' W' k' d := ⟨gD_mono h1 d c.g, c.nd, c.nl, Nat.le_trans c.w h2, Nat.le_trans c.k h3⟩
theorem Bt.mono {B B' W W' k k' : Nat} {d : D} (c : Bt B W k d) (h1 : B ≤ B') (h2 : W ≤ W') (h3 : k ≤ k') : Bt B' W' k' d := ⟨gD_mono h1 d c.g, c.fl, Nat.le_trans c.w h2, Nat.le_trans c.k h3⟩
theorem Cl.tup {B W k : Nat} {ds : List D} (h : ∀ d ∈ ds, ∃ W', Cl B W' k d) (hw : wtA ds ≤ W) : Cl B W (k + 1) (.tuple ds) where
  g := by
    simp only [gD]
    exact gDA_all.mpr fun x hx => let ⟨_, c⟩ := h x hx; c.g
  nd := by
    simp only [PyData.hasDict]
    exact nodict_all.mpr fun x hx => let ⟨_, c⟩ := h x hx; c.nd
  nl := by
    simp only [noList]
    exact nolist_all.mpr fun x hx => let ⟨_, c⟩ := h x hx; c.nl
  w := by rw [w_tup]; exact hw
  k := by
    simp only [PyData.depth]
    have := depth_all.mpr fun x hx => (let ⟨_, c⟩ := h x hx; c.k : x.depth ≤ k)
    omega
theorem Cl.els {B W k : Nat} {ds : List D} (c : Cl B W (k + 1) (.tuple ds)) : (∀ d ∈ ds, ∃ W', Cl B W' k d ∧ W' ≤ W) ∧ wtA ds ≤ W := by
  have g := c.g
  have nd := c.nd
  have nl := c.nl
  have w := c.w
  have dk := c.k
  simp only [gD] at g
  simp only [PyData.hasDict] at nd
  simp only [noList] at nl
  rw [w_tup] at w
  simp only [PyData.depth] at dk
  have dk2 : PyData.depthAll ds ≤ k := by omega
  refine ⟨fun d hd => ⟨d.weight, ⟨gDA_all.mp g d hd, nodict_all.mp nd d hd, nolist_all.mp nl d hd, Nat.le_refl _, depth_all.mp dk2 d hd⟩, Nat.le_trans (wt_mem hd) w⟩, w⟩
theorem Cl.lst {B W k : Nat} {ds : List D} (h : ∀ d ∈ ds, ∃ W', Cl B W' k d) (hw : wtA ds ≤ W) : Bt B W (k + 1) (.list ds) where
  g := by
    simp only [gD]
    exact gDA_all.mpr fun x hx => let ⟨_, c⟩ := h x hx; c.g
  fl := .inl (by
    simp only [PyData.hasDict]
    exact nodict_all.mpr fun x hx => let ⟨_, c⟩ := h x hx; c.nd)
  w := by rw [w_lst]; exact hw
  k := by
    simp only [PyData.depth]
    have := depth_all.mpr fun x hx => (let ⟨_, c⟩ := h x hx; c.k : x.depth ≤ k)
    omega
/-- one thing put among clean ones -/
theorem Bt.put {B W k : Nat} {a b : List D} {d : D} (h : ∀ x ∈ a ++ b, ∃ W', Cl B W' k x) (hd : Bt B W k d) {W2 : Nat} (hw : wtA (a ++ [d] ++ b) ≤ W2) : Bt B W2 (k + 1) (.tuple (a ++ [d] ++ b)) where
  g := by
    simp only [gD]
    refine gDA_all.mpr fun x hx => ?_
    rcases List.mem_append.mp hx with hx | hx
    · rcases List.mem_append.mp hx with hx | hx
      · exact let ⟨_, c⟩ := h x (List.mem_append_left _ hx); c.g
      · rw [List.mem_singleton.mp hx]; exact hd.g
    · exact let ⟨_, c⟩ := h x (List.mem_append_right _ hx); c.g
  fl := by
    have each : ∀ (p : D → Prop), (∀ x ∈ a ++ b, p x) → p d → ∀ x ∈ a ++ [d] ++ b, p x := fun p h1 h2 x hx => by
      rcases List.mem_append.mp hx with hx | hx
      · rcases List.mem_append.mp hx with hx | hx
        · exact h1 x (List.mem_append_left _ hx)
        · rw [List.mem_singleton.mp hx]; exact h2
      · exact h1 x (List.mem_append_right _ hx)
    rcases hd.fl with f | f
    · refine .inl ?_
      simp only [PyData.hasDict]
      exact nodict_all.mpr (each (fun x => x.hasDict = false) (fun x hx => let ⟨_, c⟩ := h x hx; c.nd) f)
    · refine .inr ?_
      simp only [noList]
      exact nolist_all.mpr (each (fun x => noList x = true) (fun x hx => let ⟨_, c⟩ := h x hx; c.nl) f)
  w := by rw [w_tup]; exact hw
  k := by
    simp only [PyData.depth]
    have : PyData.depthAll (a ++ [d] ++ b) ≤ k := depth_all.mpr fun x hx => by
      rcases List.mem_append.mp hx with hx | hx
      · rcases List.mem_append.mp hx with hx | hx
        · exact let ⟨_, c⟩ := h x (List.mem_append_left _ hx); c.k
        · rw [List.mem_singleton.mp hx]; exact hd.k
      · exact let ⟨_, c⟩ := h x (List.mem_append_right _ hx); c.k
    omega
theorem Bt.rep {B W k : Nat} {d : D} (c : Bt B W k d) (hB : B ≤ 10000000) (hW : W ≤ 1000000) (hk : k ≤ 60) : ∃ s, reprD [d] = some (.str s) := by
  obtain ⟨h1, h2⟩ := gD_ok hB d c.g
  have h3 := PyData.shown_fits (B := 13) (by decide) (by decide) h2 (by have := c.w; omega)
  refine ⟨d.shown, ?_⟩
  show (if repOk d then some (PyData.str d.shown) else none) = _
  rw [if_pos]
  unfold repOk
  rw [Bool.and_eq_true, Bool.and_eq_true, Bool.and_eq_true]
  refine ⟨⟨⟨h1, decide_eq_true h3⟩, decide_eq_true (Nat.le_trans c.k hk)⟩, ?_⟩
  rw [Bool.or_eq_true]
  rcases c.fl with f | f
  · exact .inl (by rw [f]; rfl)
  · exact .inr f
/-- an integer -/
theorem cl_int {B k : Nat} {i : Int} (h : i.natAbs ≤ B) (hB : B ≤ 10000000) : Cl B 24 k (.int i) where
  g := by simp only [gD]; exact decide_eq_true h
  nd := by simp only [PyData.hasDict]
  nl := by simp only [noList]
  w := by
    simp only [PyData.weight]
    split
    · omega
    · next hn =>
      have h0 : i.natAbs ≠ 0 := fun z => hn (by rw [Int.natAbs_eq_zero.mp z]; rfl)
      have := (Nat.log2_lt h0).mpr (show i.natAbs < 2 ^ 24 by omega)
      omega
  k := by simp only [PyData.depth]; omega

theorem w_nat {b k : Nat} (h : k < 2 ^ b) : (PyData.int (k : Nat)).weight ≤ b := by
  simp only [PyData.weight]
  split
  · omega
  · next hn =>
    have h0 : ((k : Nat) : Int).natAbs ≠ 0 := fun z => hn (by rw [Int.natAbs_eq_zero.mp z]; rfl)
    have e : ((k : Nat) : Int).natAbs = k := Int.natAbs_natCast k
    have := (Nat.log2_lt h0).mpr (show ((k : Nat) : Int).natAbs < 2 ^ b by rw [e]; exact h)
    omega
theorem cl_nat {k d : Nat} (h : k < 32) : Cl 1000000 5 d (.int (k : Nat)) := by
  have c := cl_int (B := 1000000) (k := d) (i := ((k : Nat) : Int)) (by omega) (by omega)
  exact ⟨c.g, c.nd, c.nl, w_nat (b := 5) h, c.k⟩
theorem frame_cl {n : Nat} {ps : List (Nat × Nat)} (n6 : n ≤ 6) (m9 : ps.length ≤ 9) (hlt : ∀ p ∈ ps, p.1 < n ∧ p.2 < n) : Cl 1000000 3000 3 (fD n ps) := by
  have each : ∀ d ∈ ps.map pD, Cl 1000000 12 1 d := fun d hd => by
    obtain ⟨p, hp, rfl⟩ := List.mem_map.mp hd
    have h := hlt p hp
    have h1 := w_nat (b := 5) (show p.1 < 2 ^ 5 by omega)
    have h2 := w_nat (b := 5) (show p.2 < 2 ^ 5 by omega)
    refine Cl.tup (k := 0) (fun x hx => ?_) (by rw [wt_cons, wt_cons, wt_nil]; omega)
    simp only [List.mem_cons, List.not_mem_nil, or_false] at hx
    rcases hx with rfl | rfl
    · exact ⟨5, cl_nat (by omega)⟩
    · exact ⟨5, cl_nat (by omega)⟩
  have c : Cl 1000000 200 2 (.tuple (ps.map pD)) := Cl.tup (k := 1) (fun d hd => ⟨12, each d hd⟩) (Nat.le_trans (wt_le (c := 13) fun d hd => by have := (each d hd).w; omega) (by rw [List.length_map]; omega))
  have hn := w_nat (b := 5) (show n < 2 ^ 5 by omega)
  refine Cl.tup (k := 2) (fun x hx => ?_) (by rw [wt_cons, wt_cons, wt_nil]; have := c.w; omega)
  simp only [List.mem_cons, List.not_mem_nil, or_false] at hx
  rcases hx with rfl | rfl
  · exact ⟨5, cl_nat (by omega)⟩
  · exact ⟨200, c⟩
theorem ok_sl {f : Fx D} {lo hi : Fo} {δ : List Slot} {l h : Option Int} {P Q : D → Prop} (hf : Ok (f δ) P) (hl : lo δ = mp l) (hh : hi δ = mp h) (k : ∀ x, P x → ∃ d, slD x l h = some d ∧ Q d) : Ok (fSl f lo hi δ) Q := by
  unfold fSl
  refine hf.mb fun x px => ?_
  rw [hl, mb_mp, hh, mb_mp]
  obtain ⟨d, e, q⟩ := k x px
  rw [e]; exact Ok.mp q
theorem cut_lo {α : Type} (ds : List α) (k : Nat) : (cutD ds none (some ((k : Nat) : Int))).length = min k ds.length := by
  unfold cutD
  rw [HT.sIx_none, HT.sIx_nat, List.length_take, List.length_drop]; omega

theorem cl_small {k : Nat} {i : Int} (h : i.natAbs ≤ 1000) : Cl 1000000 24 k (.int i) := cl_int (by omega) (by omega)
theorem cl_rowT {t : List Int} {m : Nat} (h : isTurn m t) (m7 : m ≤ 7) : Cl 1000000 175 1 (mD t) := by
  refine Cl.tup (k := 0) (fun d hd => ?_) (Nat.le_trans (wt_le (c := 25) fun d hd => ?_) (by rw [List.length_map, h.1]; omega))
  · obtain ⟨x, hx, rfl⟩ := List.mem_map.mp hd
    exact ⟨24, cl_small (by rcases h.2 x hx with rfl | rfl <;> decide)⟩
  · obtain ⟨x, hx, rfl⟩ := List.mem_map.mp hd
    have := (cl_small (k := 0) (i := x) (by rcases h.2 x hx with rfl | rfl <;> decide)).w
    omega
theorem rep_rows {ls : List (List Int)} {m : Nat} (m7 : m ≤ 7) (h : ∀ t ∈ ls, isTurn m t) (hl : ls.length ≤ 128) : ∃ s, reprD [.tuple (ls.map mD)] = some (.str s) := by
  have c : Cl 1000000 30000 2 (.tuple (ls.map mD)) := by
    refine Cl.tup (k := 1) (fun d hd => ?_) (Nat.le_trans (wt_le (c := 176) fun d hd => ?_) (by rw [List.length_map]; omega))
    · obtain ⟨t, ht, rfl⟩ := List.mem_map.mp hd
      exact ⟨175, cl_rowT (h t ht) m7⟩
    · obtain ⟨t, ht, rfl⟩ := List.mem_map.mp hd
      have := (cl_rowT (h t ht) m7).w
      omega
  exact c.bt.rep (by omega) (by omega) (by omega)
theorem rep_frame {n : Nat} {ps : List (Nat × Nat)} (F : Fm n ps) : ∃ s, reprD [fD n ps] = some (.str s) := by
  have := F.n5
  have := F.m7
  exact (frame_cl (by omega) (by omega) F.lt).bt.rep (by omega) (by omega) (by omega)
theorem ne_str (s : Str) : neD (.str s) (.str s) = some (.bool false) := by
  have : neD (.str s) (.str s) = (if okEq (.str s) 60 (.str s) = true then some (PyData.bool (!PyData.eqv (.str s) (.str s))) else none) := rfl
  rw [this, if_pos (by simp [okEq])]
  simp [PyData.eqv]
theorem ne_unit (xs : List D) : neD (.tuple xs) (.tuple []) = some (.bool (!xs.isEmpty)) := by
  have : neD (.tuple xs) (.tuple []) = (if okEq (.tuple xs) 60 (.tuple []) = true then some (PyData.bool (!PyData.eqv (.tuple xs) (.tuple []))) else none) := rfl
  rw [this]
  cases xs with
  | nil => rw [if_pos (by rw [okEq_tuple]; simp [okEqA])]; simp [PyData.eqv, PyData.eqvAll]
  | cons x r => rw [if_pos (by rw [okEq_tuple]; simp [okEqA])]; simp [PyData.eqv, PyData.eqvAll]
theorem cut_at {α : Type} (ds : List α) (k : Nat) : cutD ds none (some ((k : Nat) : Int)) = ds.take k := by
  unfold cutD
  rw [HT.sIx_none, HT.sIx_nat, List.drop_zero, Nat.sub_zero]
  by_cases h : k ≤ ds.length
  · rw [Nat.min_eq_left h]
  · rw [Nat.min_eq_right (by omega), List.take_length, List.take_of_length_le (by omega)]

end VL

/-! Y27: what the law's parts rest on. -/
namespace VL
open PySem PySem.Spec PyProof.Rows L2
theorem turns_sorted : ∀ m, m < 8 → (turns m).Pairwise (fun x y => leI x y = true) := by decide +kernel
theorem turns_nodup : ∀ m, m < 8 → (turns m).Nodup := by decide +kernel
section
variable {n : Nat} {ps : List (Nat × Nat)}
open Classical in
noncomputable def cutB (ps : List (Nat × Nat)) (t x : List Int) : Bool := decide (isCut ps (diffZ x t))
noncomputable def dueL (ps : List (Nat × Nat)) (t : List Int) : List (List Int) := (turns ps.length).filter (cutB ps t)
theorem cutB_iff {t x : List Int} : cutB ps t x = true ↔ isCut ps (diffZ x t) := by unfold cutB; exact @decide_eq_true_iff _ (Classical.propDecidable _)
theorem cut_HD {t x : List Int} (ht : isTurn ps.length t) (hx : isTurn ps.length x) : isCut ps (diffZ x t) ↔ ∃ h, HD ps t x h := by
  unfold isCut HD
  exact exists_congr fun h => forall_congr' fun r => forall_congr' fun hr => by rw [diff_at hx.1 ht.1 hr]
theorem mem_due {t x : List Int} (ht : isTurn ps.length t) : x ∈ dueL ps t ↔ isTurn ps.length x ∧ ∃ h, HD ps t x h := by
  unfold dueL
  rw [List.mem_filter, mem_turns]
  exact and_congr_right fun hx => by rw [cutB_iff, cut_HD ht hx]
theorem due_turn {t x : List Int} (h : x ∈ dueL ps t) : isTurn ps.length x := mem_turns.mp (List.mem_filter.mp h).1
theorem due_len (m7 : ps.length ≤ 7) (t : List Int) : (dueL ps t).length ≤ 128 := Nat.le_trans (List.length_filter_le _ _) (turns_128 m7)
theorem due_self {t : List Int} (ht : isTurn ps.length t) : t ∈ dueL ps t := (mem_due ht).mpr ⟨ht, _, .refl t⟩
theorem due_sorted (m7 : ps.length ≤ 7) (t : List Int) : (dueL ps t).Pairwise fun x y => leI x y = true := (turns_sorted _ (by omega)).sublist List.filter_sublist
theorem due_nodup (m7 : ps.length ≤ 7) (t : List Int) : (dueL ps t).Nodup := (turns_nodup _ (by omega)).sublist List.filter_sublist
theorem alike_due (F : Fm n ps) (hc : Conn n ps) {t : List Int} (ht : isTurn ps.length t) : sem_alike_by_cuts [fD n ps, mD t] = some (.tuple ((dueL ps t).map mD)) :=
  alike_while F (mem_turns.mpr ht) (due_sorted F.m7 t) (due_nodup F.m7 t) fun x => (mem_due ht).trans (alike_iff F hc ht).symm
theorem due_other {t o : List Int} (ht : isTurn ps.length t) (h : o ∈ dueL ps t) : dueL ps o = dueL ps t := by
  obtain ⟨ho, k, hk⟩ := (mem_due ht).mp h
  unfold dueL
  refine List.filter_congr fun x hx => ?_
  have hx' := mem_turns.mp hx
  rw [Bool.eq_iff_iff, cutB_iff, cutB_iff, cut_HD ho hx', cut_HD ht hx']
  exact ⟨fun ⟨h, hh⟩ => ⟨_, hk.trans hh⟩, fun ⟨h, hh⟩ => ⟨_, hk.symm.trans hh⟩⟩
theorem diff_inj {t x y : List Int} {m : Nat} (ht : t.length = m) (hx : x.length = m) (hy : y.length = m) (h : diffZ x t = diffZ y t) : x = y := by
  refine turn_ext hx hy fun r hr => ?_
  have : (diffZ x t).getD r 0 = (diffZ y t).getD r 0 := by rw [h]
  rw [diff_at hx ht hr, diff_at hy ht hr] at this
  omega
noncomputable def rowsL (ps : List (Nat × Nat)) (t : List Int) : List (List Int) := (dueL ps t).map fun x => diffZ x t
theorem nodup_map {α β : Type} {f : α → β} : ∀ {l : List α}, (∀ x ∈ l, ∀ y ∈ l, f x = f y → x = y) → l.Nodup → (l.map f).Nodup
  | [], _, _ => List.nodup_nil
  | a :: l, h, nd => by
    rw [List.nodup_cons] at nd
    rw [List.map_cons, List.nodup_cons]
    refine ⟨fun z => ?_, nodup_map (fun x hx y hy => h x (.tail _ hx) y (.tail _ hy)) nd.2⟩
    obtain ⟨y, hy, e⟩ := List.mem_map.mp z
    exact nd.1 (h y (.tail _ hy) a (.head _) e ▸ hy)
theorem rows_nodup (m7 : ps.length ≤ 7) {t : List Int} (ht : isTurn ps.length t) : (rowsL ps t).Nodup :=
  nodup_map (fun x hx y hy e => diff_inj ht.1 (due_turn hx).1 (due_turn hy).1 e) (due_nodup m7 t)
theorem near_rows (F : Fm n ps) (hc : Conn n ps) (m1 : 1 ≤ ps.length) {t : List Int} (ht : isTurn ps.length t) : sem_nearest_cut_rows [fD n ps, yD t] = some (.list (((rowsL ps t).mergeSort leI).map mD)) := by
  refine near_while F m1 ht (rows_nodup F.m7 ht) fun k => ?_
  refine Iff.trans ?_ (near_iff F hc ht).symm
  unfold rowsL
  rw [List.mem_map]
  constructor
  · rintro ⟨x, hx, rfl⟩
    obtain ⟨h1, h2⟩ := (mem_due ht).mp hx
    exact ⟨x, h1, h2, rfl⟩
  · rintro ⟨x, h1, h2, rfl⟩
    exact ⟨x, (mem_due ht).mpr ⟨h1, h2⟩, rfl⟩
theorem half_diff {t x : List Int} {m : Nat} (ht : t.length = m) (hx : x.length = m) : List.zipWith (fun p q => (p - q).fdiv 2) (sgn t) (sgn x) = diffZ x t := by
  refine turn_ext (m := m) (by rw [List.length_zipWith, sgn_len, sgn_len]; omega) (diff_len hx ht) fun r hr => ?_
  rw [zipW_at (by rw [sgn_len]; omega) (by rw [sgn_len]; omega), sgn_getD (by omega), sgn_getD (by omega), diff_at hx ht hr, Int.fdiv_eq_ediv_of_nonneg _ (by decide)]
  omega
theorem dot_sgn : ∀ (g t x : List Int), g.length = t.length → t.length = x.length → dotZ g (sgn t) - dotZ g (sgn x) = 2 * dotZ g (diffZ x t)
  | [], _, _, _, _ => by simp [dotZ]
  | a :: g, [], _, h, _ => by cases h
  | a :: g, b :: t, [], _, h => by cases h
  | a :: g, b :: t, c :: x, h1, h2 => by
    have ih := dot_sgn g t x (by simpa using h1) (by simpa using h2)
    unfold dotZ sgn diffZ at *
    rw [List.map_cons, List.map_cons, List.zipWith_cons_cons, List.zipWith_cons_cons, List.zipWith_cons_cons, List.zipWith_cons_cons, List.sum_cons, List.sum_cons, List.sum_cons]
    have e : a * (1 - 2 * b) - a * (1 - 2 * c) = 2 * (a * (c - b)) := by
      rw [Int.mul_sub, Int.mul_sub, Int.mul_sub, Int.mul_left_comm a 2 b, Int.mul_left_comm a 2 c]; omega
    omega
noncomputable def sameProd (n : Nat) (ps : List (Nat × Nat)) (t x : List Int) : Bool := ((rings n ps).filter fun g => !decide (dotZ g (sgn t) = dotZ g (sgn x))).isEmpty
theorem same_due (F : Fm n ps) {t x : List Int} (ht : isTurn ps.length t) (hx : isTurn ps.length x) : sameProd n ps t x = decide (x ∈ dueL ps t) := by
  rw [Bool.eq_iff_iff, decide_eq_true_iff, mem_due ht, ← cut_HD ht hx, ← rings_cut F (diff_len hx.1 ht.1)]
  unfold sameProd
  rw [List.isEmpty_iff, List.filter_eq_nil_iff]
  constructor
  · intro h
    refine ⟨hx, fun g hg => ?_⟩
    have h1 := h g hg
    simp only [Bool.not_eq_true', decide_eq_false_iff_not, Classical.not_not] at h1
    have h2 := dot_sgn g t x ((rings_len F hg).trans ht.1.symm) (ht.1.trans hx.1.symm)
    omega
  · rintro ⟨_, h⟩ g hg
    have h1 := h g hg
    have h2 := dot_sgn g t x ((rings_len F hg).trans ht.1.symm) (ht.1.trans hx.1.symm)
    simp only [Bool.not_eq_true', decide_eq_false_iff_not, Classical.not_not]
    omega
theorem ne_bool (a b : Bool) : neD (.bool a) (.bool b) = some (.bool (!(a == b))) := by
  have : neD (.bool a) (.bool b) = (if okEq (.bool a) 60 (.bool b) = true then some (PyData.bool (!PyData.eqv (.bool a) (.bool b))) else none) := rfl
  rw [this, if_pos (by simp [okEq])]
  cases a <;> cases b <;> rfl
theorem ev_zipN {δ : List Slot} {fr : Fx (List D)} {e : Fx D} {i j : Nat} {a b : List Int} (E : Int → Int → D) (hf : fr δ = mp [mD a, mD b]) (ha : a.length ≤ 65536) (no : noOwn δ [i, j] = true)
    (he : ∀ x y, e (((wipeS δ [i, j]).set i (.val (.int x))).set j (.val (.int y))) = mp (E x y)) :
    lcF (fZp fr) (gTp 2 (gAC (gSet i) (gAC (gSet j) gAN))) (fun _ => mp true) e [i, j] δ = mp (.list (List.zipWith E a b)) := by
  have h := evLc0 (gt := gTp 2 (gAC (gSet i) (gAC (gSet j) gAN))) (e := e) (vs := [i, j]) (δ := δ) (enc := pairD PyData.int PyData.int) (zs := a.zip b) (fun p => E p.1 p.2) ((evZp (δ := δ) hf (by rw [List.length_map]; exact small16 ha)).trans (by rw [zipL_map])) no
    fun p _ => ⟨_, rfl, he p.1 p.2⟩
  rw [h]
  congr 2
  rw [List.zip_eq_zipWith, List.map_zipWith]
theorem fdiv_2 (i : Int) : fdivD (.int i) (.int 2) = some (.int (i.fdiv 2)) := fdivD_int (by decide) (by decide)
theorem ld_rows {ls : List (List Int)} (nd : ls.Nodup) (hl : ls.length ≤ 128) : ldD (.list (ls.map fun r => PyData.tuple [mD r, .int 0])) = some (.int (ls.length : Nat)) := by
  have hk : keysP (ls.map fun r => PyData.tuple [mD r, .int 0]) = some (ls.map mD) := keysP_map mD (fun _ => PyData.int 0) ls
  show (keysP _).bind (fun ks => if sdOk ks = true then some (PyData.int (dedupD ks).length) else none) = _
  rw [hk]
  show (if sdOk (ls.map mD) = true then some (PyData.int (dedupD (ls.map mD)).length) else none) = _
  rw [if_pos (by
    unfold sdOk
    rw [Bool.and_eq_true, Bool.or_eq_true]
    exact ⟨.inr (List.all_eq_true.mpr fun x hx => by
      obtain ⟨a, _, rfl⟩ := List.mem_map.mp hx
      show (intsOf (a.map PyData.int)).isSome = true
      rw [intsOf_map]; rfl), decide_eq_true (by rw [List.length_map]; exact small16 (by omega))⟩)]
  have e : dedupD (ls.map mD) = (dedupT ls).map mD := dedup_map _ eqv_mD ls
  have e2 : ∀ {l : List (List Int)}, l.Nodup → dedupT l = l := fun {l} => by
    induction l with
    | nil => intro _; rfl
    | cons a r ih =>
      intro nd
      rw [List.nodup_cons] at nd
      unfold dedupT
      rw [ih nd.2, List.filter_eq_self.mpr]
      intro x hx
      have : x ≠ a := fun z => nd.1 (z ▸ hx)
      simp [this]
  rw [e, e2 nd, List.length_map]
end
end VL

/-! Y28: a lap of the law from the due turnings on. -/
namespace VL
open PySem PySem.Spec PyProof.Rows L2

section
variable {n : Nat} {ps : List (Nat × Nat)} {j : Nat} {kept : Str} {t : List Int} {x10 x11 x12 x13 x14 x15 x16 : Slot}
def bG : Fx Flow := (fSeq (sSet 13 (fc tupleD (fCons (lcF (fZp (fCons (gv 8) (fCons (fCall 1 sem__law_signs_of (fCons (gv 12) fNil)) fNil))) (gTp 2 (gAC (gSet 22) (gAC (gSet 23) gAN))) (fun _ => mp true) (f2 fdivD (f2 subD (gw 22) (gw 23)) (fun _ => mp (.int 2))) [22, 23]) fNil))) (fIf (fB (f2 isNotD (fCall 2 sem__law_heights (fCons (gv 3) (fCons (gv 13) fNil))) (fun _ => mp .none))) (fSeq (sApp 10 (gv 12)) (sApp 11 (gv 13))) (fun δ => mp (.nx δ))))
def bK : Fx Flow := (fSeq (sSet 15 (f2 eqD (lcF (fSq (gv 9)) (gSet 24) (fB (f2 neD (fCall 2 sem_row_product (fCons (gv 24) (fCons (gv 8) fNil))) (fCall 2 sem_row_product (fCons (gv 24) (fCons (fCall 1 sem__law_signs_of (fCons (gv 12) fNil)) fNil))))) (gv 24) [24]) (fc lstD fNil))) (fIf (fB (f2 neD (gw 15) (f2 inD (gw 12) (gw 14)))) (sRet (fun _ => mp (.bool false))) (fun δ => mp (.nx δ))))
def segK : Fx Flow := (fSeq (sFor (fSq (fSl (fSrc 1 1 sem__law_mixed (fCons (gv 7) fNil)) foN (foS (fun _ => mp (.int 6))))) (gSet 12) bK) (fSeq (sSet 16 (fSrc 1 1 sem__law_of (fCons (gv 10) fNil))) (fIf (fOr (fB (f2 neD (fCall 2 sem_alike_by_cuts (fCons (gv 3) (fCons (gv 16) fNil))) (gw 14))) (fB (f2 neD (fc reprD (fCons (gw 3) fNil)) (gw 5)))) (sRet (fun _ => mp (.bool false))) (fun δ => mp (.nx δ)))))
def segJ : Fx Flow := (fSeq (fIf (fB (f2 neD (fc reprD (fCons (gw 14) fNil)) (fc reprD (fCons (fc tupleD (fCons (gw 10) fNil)) fNil)))) (sRet (fun _ => mp (.bool false))) (fun δ => mp (.nx δ))) (fSeq (fIf (fOr (fB (f2 neD (fCall 2 sem_nearest_cut_rows (fCons (gv 3) (fCons (fc tupD (fCons (gv 8) (fCons (fun _ => mp (.int 2)) fNil))) fNil))) (fc sortD (fCons (gw 11) fNil)))) (fB (f2 neD (f1 ldD (lcF (fSq (gv 11)) (gSet 13) (fun _ => mp true) (fc tupD (fCons (gv 13) (fCons (fun _ => mp (.int 0)) fNil))) [13])) (fc lenD (fCons (gw 11) fNil))))) (sRet (fun _ => mp (.bool false))) (fun δ => mp (.nx δ))) segK))
def segG : Fx Flow := (fSeq (sFor (fSq (gv 7)) (gSet 12) bG) (fFrz 10 (fSeq (sSet 14 (fCall 2 sem_alike_by_cuts (fCons (gv 3) (fCons (gv 6) fNil)))) (fFrz 11 segJ))))
noncomputable def stQ (j n : Nat) (ps : List (Nat × Nat)) (kept : Str) (t : List Int) (x10 x11 x12 x13 x14 x15 x16 : Slot) : List Slot :=
  [.nil, .src, .val (.int (j : Nat)), .val (fD n ps), .val (.int (ps.length : Nat)), .val (.str kept), .val (mD t), .val (.list ((turns ps.length).map mD)), .val (mD (sgn t)), .val (.tuple ((rings n ps).map mD)), x10, x11, x12, x13, x14, x15, x16, .nil, .nil, .nil, .nil, .nil, .nil, .nil, .nil]
def nO (x : Slot) : Prop := ∀ d, x ≠ .own d
/-! ### which turnings are due -/
theorem g_for (F : Fm n ps) (hc : Conn n ps) (ht : isTurn ps.length t) (h13 : nO x13) : ∃ y12 y13, nO y13 ∧ (sFor (fSq (gv 7)) (gSet 12) bG) (stQ j n ps kept t (.own (.list [])) (.own (.list [])) x12 x13 x14 x15 x16) = mp (.nx (stQ j n ps kept t (.own (.list ((dueL ps t).map mD))) (.own (.list ((rowsL ps t).map mD))) y12 y13 x14 x15 x16)) := by
  have m7 := F.m7
  have h128 := turns_128 m7
  have big := small16 (show 1000 ≤ 65536 by decide)
  obtain ⟨δ', e1, hs, y12, y13, hn, e2⟩ := forF_idx (g := gSet 12) (b := bG) (enc := mD) (rep := fun i (d : List (List Int)) δ => d.length ≤ i ∧ ∃ y12 y13, nO y13 ∧ δ = stQ j n ps kept t (.own (.list (d.map mD))) (.own (.list ((d.map fun x => diffZ x t).map mD))) y12 y13 x14 x15 x16)
    (step := fun (d : List (List Int)) x => if cutB ps t x = true then d ++ [x] else d) (turns ps.length) 0 (fun i d x δ hi ⟨hd, y12, y13, hn, e⟩ => by
      subst e
      have hx := mem_turns.mp (List.mem_of_getElem? hi)
      have hil := (List.getElem?_eq_some_iff.mp hi).1
      have hdl := diff_len hx.1 ht.1
      obtain ⟨dd, b, eh, eb, hb⟩ := sp__law_heights F hc hdl
      have hcb : cutB ps t x = b := by rw [Bool.eq_iff_iff, cutB_iff]; exact hb.symm
      have e13 : fc tupleD (fCons (lcF (fZp (fCons (gv 8) (fCons (fCall 1 sem__law_signs_of (fCons (gv 12) fNil)) fNil))) (gTp 2 (gAC (gSet 22) (gAC (gSet 23) gAN))) (fun _ => mp true) (f2 fdivD (f2 subD (gw 22) (gw 23)) (fun _ => mp (.int 2))) [22, 23]) fNil) (stQ j n ps kept t (.own (.list (d.map mD))) (.own (.list ((d.map fun x => diffZ x t).map mD))) (.val (mD x)) y13 x14 x15 x16) = mp (mD (diffZ x t)) := by
        refine evc (evCons (ev_zipN (fun p q => .int ((p - q).fdiv 2)) (evCons rfl (evCons (evCall (evCons rfl evNil) rfl (sp__law_signs_of (by rw [hx.1]; omega))) evNil)) (by rw [sgn_len, ht.1]; omega) rfl fun p q => ev2 (ev2 rfl rfl rfl) rfl (fdiv_2 _)) evNil) ?_
        rw [tup_l (by rw [List.length_zipWith, sgn_len, ht.1]; omega), zipW_int, half_diff ht.1 hx.1]; rfl
      have et : fB (f2 isNotD (fCall 2 sem__law_heights (fCons (gv 3) (fCons (gv 13) fNil))) (fun _ => mp .none)) (stQ j n ps kept t (.own (.list (d.map mD))) (.own (.list ((d.map fun x => diffZ x t).map mD))) (.val (mD x)) (.val (mD (diffZ x t))) x14 x15 x16) = mp b :=
        evB (ev2 (evCall (evCons rfl (evCons rfl evNil)) rfl eh) rfl eb)
      refine ⟨_, stQ j n ps kept t (.own (.list ((if cutB ps t x = true then d ++ [x] else d).map mD))) (.own (.list (((if cutB ps t x = true then d ++ [x] else d).map fun x => diffZ x t).map mD))) (.val (mD x)) (.val (mD (diffZ x t))) x14 x15 x16, rfl, ?_, ?_, _, _, fun d h => (by cases h), rfl⟩
      · unfold bG
        rw [hcb]
        cases b with
        | true =>
          rw [if_pos rfl]
          refine evSeq (evSet e13) (evIfT et (evSeq (evApp rfl (app_at (f := d) (t := x) rfl (by omega))) (evApp rfl ((app_at (f := d.map fun x => diffZ x t) (t := diffZ x t) rfl (by rw [List.length_map]; omega)).trans ?_))))
          rw [List.map_append (l₁ := d) (f := fun x => diffZ x t)]; rfl
        | false =>
          rw [if_neg (by decide)]
          exact evSeq (evSet e13) (evIfF et rfl)
      · split
        · rw [List.length_append, List.length_singleton]; omega
        · omega) [] (stQ j n ps kept t (.own (.list [])) (.own (.list [])) x12 x13 x14 x15 x16) ⟨Nat.zero_le _, x12, x13, h13, rfl⟩
  have ef : (turns ps.length).foldl (fun (d : List (List Int)) x => if cutB ps t x = true then d ++ [x] else d) [] = dueL ps t := by
    have := fold_if (fun (s : List (List Int)) y => s ++ [y]) (cutB ps t) (fun x => x) (turns ps.length) []
    rw [this, foldl_app, List.nil_append, List.map_id']
    rfl
  rw [ef] at e2
  refine ⟨y12, y13, hn, evFor (evSq rfl (seq_l (by rw [List.length_map]; exact small16 (by omega)))) ?_⟩
  rw [e1, e2]; rfl
/-! ### the products -/
theorem k_body (F : Fm n ps) (ht : isTurn ps.length t) {x : List Int} (hx : isTurn ps.length x) (y15 : Slot) : bK (stQ j n ps kept t (.val (.list ((dueL ps t).map mD))) x11 (.val (mD x)) x13 (.val (.tuple ((dueL ps t).map mD))) y15 x16) = mp (.nx (stQ j n ps kept t (.val (.list ((dueL ps t).map mD))) x11 (.val (mD x)) x13 (.val (.tuple ((dueL ps t).map mD))) (.val (.bool (sameProd n ps t x))) x16)) := by
  have m7 := F.m7
  have hrl := (sp_simple_ring_rows F).2
  have sm : ∀ y : List Int, isTurn ps.length y → sml (sgn y) := fun y hy z hz => by
    have := sgn_mem hy z hz
    omega
  have e15 : f2 eqD (lcF (fSq (gv 9)) (gSet 24) (fB (f2 neD (fCall 2 sem_row_product (fCons (gv 24) (fCons (gv 8) fNil))) (fCall 2 sem_row_product (fCons (gv 24) (fCons (fCall 1 sem__law_signs_of (fCons (gv 12) fNil)) fNil))))) (gv 24) [24]) (fc lstD fNil) (stQ j n ps kept t (.val (.list ((dueL ps t).map mD))) x11 (.val (mD x)) x13 (.val (.tuple ((dueL ps t).map mD))) y15 x16) = mp (.bool (sameProd n ps t x)) := by
    refine ev2 (evLc (enc := mD) (zs := rings n ps) (fun g => !decide (dotZ g (sgn t) = dotZ g (sgn x))) (fun g => mD g) (evSq rfl (seq_t (by rw [List.length_map]; exact small16 (by omega)))) rfl fun g hg => ⟨_, rfl, ?_, fun _ => rfl⟩) (evc evNil (lst_ok (Nat.zero_le _))) ((eq_nil _).trans ?_)
    · have hgl := rings_len F hg
      exact evB (ev2 (evCall (evCons rfl (evCons rfl evNil)) rfl (sp_row_product (by omega) (by rw [sgn_len, ht.1, hgl]) (sm t ht))) (evCall (evCons rfl (evCons (evCall (evCons rfl evNil) rfl (sp__law_signs_of (by rw [hx.1]; omega))) evNil)) rfl (sp_row_product (by omega) (by rw [sgn_len, hx.1, hgl]) (sm x hx))) (ne_int _ _))
    · rw [isEmpty_map]; rfl
  unfold bK
  refine evSeq (evSet e15) (evIfF (evB (ev2 rfl (ev2 rfl rfl (in_rowsT x (dueL ps t))) ((ne_bool _ _).trans ?_))) rfl)
  rw [same_due F ht hx]
  simp
def Rend (δ : List Slot) : Prop := ∃ x2 x3 x4 x5 x6 x7 x8 x9 x10 x11 x12 x13 x14 x15 x16, nO x13 ∧ δ = [.nil, .src, x2, x3, x4, x5, x6, x7, x8, x9, x10, x11, x12, x13, x14, x15, x16, .nil, .nil, .nil, .nil, .nil, .nil, .nil, .nil]
theorem ok_segK (F : Fm n ps) (hc : Conn n ps) (ht : isTurn ps.length t) (hk : reprD [fD n ps] = some (.str kept)) (h13 : nO x13) :
    Ok (segK (stQ j n ps kept t (.val (.list ((dueL ps t).map mD))) x11 x12 x13 (.val (.tuple ((dueL ps t).map mD))) x15 x16)) (fun fl => ∃ δ', fl = .nx δ' ∧ Rend δ') := by
  have m7 := F.m7
  have h128 := turns_128 m7
  have hdl := due_len m7 t
  unfold segK
  refine ok_seqX (ok_sFor (W := fun xs : List (List Int) => ∀ x ∈ xs, isTurn ps.length x) (enc := mD) (R := fun _ δ => ∃ y12 y15, δ = stQ j n ps kept t (.val (.list ((dueL ps t).map mD))) x11 y12 x13 (.val (.tuple ((dueL ps t).map mD))) y15 x16) ?_ ?_ ⟨x12, x15, rfl⟩) fun δ ⟨_, _, y12, y15, e⟩ => ?_
  · refine Ok.mb (P := fun d => ∃ zs : List (List Int), d = .list (zs.map mD) ∧ (∀ x ∈ zs, isTurn ps.length x) ∧ zs.length ≤ 128) (ok_sl (P := fun d => ∃ zs : List (List Int), d = .list (zs.map mD) ∧ zs.Perm (turns ps.length)) (l := none) (h := some 6) (ok_srcI (P := fun xs => xs = [.list ((turns ps.length).map mD)]) rfl (Ok.of (evCons rfl evNil) rfl) fun xs e => ?_) rfl (evOS rfl) fun d ⟨zs, e, hz⟩ => ?_) fun d ⟨zs, e, hz, hzl⟩ => ?_
    · subst e
      refine ⟨rfl, (sp__law_mixed (by rw [List.length_map]; omega)).wk fun d ⟨ys, e, hp⟩ => ?_⟩
      obtain ⟨zs, e2, hz⟩ := perm_map hp
      exact ⟨zs, by rw [e, e2], hz⟩
    · subst e
      refine ⟨_, rfl, zs.take 6, ?_, fun x hx => mem_turns.mp (hz.mem_iff.mp (List.mem_of_mem_take hx)), by rw [List.length_take]; omega⟩
      rw [show (6 : Int) = ((6 : Nat) : Int) from rfl, cut_at, List.map_take]
    · subst e
      exact Ok.of (a := zs.map mD) (by rw [seq_l (by rw [List.length_map]; exact small16 (by omega))]; rfl) ⟨zs, rfl, hz⟩
  · intro xs hxs i x δ hi ⟨y12, y15, e⟩
    subst e
    exact ⟨_, rfl, Ok.of (k_body F ht (hxs x (List.mem_of_getElem? hi)) y15) ⟨_, rfl, _, _, rfl⟩⟩
  · subst e
    refine ok_seqSet (P := fun d => ∃ o, d = mD o ∧ o ∈ dueL ps t) (ok_ofI (P := fun xs => xs = (dueL ps t).map mD) rfl (Ok.of (a := .list ((dueL ps t).map mD)) rfl ⟨_, rfl, rfl⟩) fun xs e => ?_) fun d ⟨o, e, ho⟩ => ?_
    · subst e
      refine ⟨fun z => ?_, by rw [List.length_map]; omega, fun d hd => ?_⟩
      · have h1 := due_self ht
        rw [List.map_eq_nil_iff.mp z] at h1
        cases h1
      · obtain ⟨o, ho, e⟩ := List.mem_map.mp hd
        exact ⟨o, e.symm, ho⟩
    · subst e
      have hot := due_turn ho
      refine Ok.of (a := .nx (stQ j n ps kept t (.val (.list ((dueL ps t).map mD))) x11 y12 x13 (.val (.tuple ((dueL ps t).map mD))) y15 (.val (mD o)))) (evIfF (evOr (c := false) (c2 := false) (evB (ev2 (evCall (evCons rfl (evCons rfl evNil)) rfl (alike_due F hc hot)) rfl ((ne_rowsT _ _).trans ?_))) fun _ => evB (ev2 (evc (evCons rfl evNil) hk) rfl (ne_str kept))) rfl) ⟨_, rfl, _, _, _, _, _, _, _, _, _, _, _, _, _, _, _, h13, rfl⟩
      rw [due_other ht ho]; simp
theorem ok_segJ (F : Fm n ps) (hc : Conn n ps) (m1 : 1 ≤ ps.length) (ht : isTurn ps.length t) (hk : reprD [fD n ps] = some (.str kept)) (h13 : nO x13) :
    Ok (segJ (stQ j n ps kept t (.val (.list ((dueL ps t).map mD))) (.val (.list ((rowsL ps t).map mD))) x12 x13 (.val (.tuple ((dueL ps t).map mD))) x15 x16)) (fun fl => ∃ δ', fl = .nx δ' ∧ Rend δ') := by
  have m7 := F.m7
  have hdl := due_len m7 t
  have hrl : (rowsL ps t).length ≤ 128 := by unfold rowsL; rw [List.length_map]; exact hdl
  have big := small16 (show 1000 ≤ 65536 by decide)
  obtain ⟨s, hs⟩ := rep_rows m7 (ls := dueL ps t) (fun x hx => due_turn hx) hdl
  have no13 : noOwn (stQ j n ps kept t (.val (.list ((dueL ps t).map mD))) (.val (.list ((rowsL ps t).map mD))) x12 x13 (.val (.tuple ((dueL ps t).map mD))) x15 x16) [13] = true := by
    cases x13 with
    | own d => exact absurd rfl (h13 d)
    | nil => rfl
    | val d => rfl
    | src => rfl
  unfold segJ
  refine ok_seqN (evIfF (evB (ev2 (evc (evCons rfl evNil) hs) (evc (evCons (evc (evCons rfl evNil) rfl) evNil) hs) (ne_str s))) rfl) ?_
  refine ok_seqN (evIfF (evOr (c := false) (c2 := false) (evB (ev2 (evCall (evCons rfl (evCons (evc (evCons rfl (evCons rfl evNil)) (tup2 _ _)) evNil)) rfl (near_rows F hc m1 ht)) (evc (evCons rfl evNil) (sortD_rows (by omega))) ((ne_rowsL _ _).trans (by simp)))) fun _ => evB (ev2 (ev1 (evLc0 (enc := mD) (zs := rowsL ps t) (fun r => PyData.tuple [mD r, .int 0]) (evSq rfl (seq_l (by rw [List.length_map]; omega))) no13 fun r _ => ⟨_, rfl, evc (evCons rfl (evCons rfl evNil)) (tup2 _ _)⟩) (ld_rows (rows_nodup m7 ht) hrl)) (evc (evCons rfl evNil) (len_l _)) ((ne_int _ _).trans (by rw [List.length_map]; simp)))) rfl) ?_
  exact ok_segK F hc ht hk h13
theorem ok_segG (F : Fm n ps) (hc : Conn n ps) (m1 : 1 ≤ ps.length) (ht : isTurn ps.length t) (hk : reprD [fD n ps] = some (.str kept)) (h13 : nO x13) :
    Ok (segG (stQ j n ps kept t (.own (.list [])) (.own (.list [])) x12 x13 x14 x15 x16)) (fun fl => ∃ δ', fl = .nx δ' ∧ Rend δ') := by
  obtain ⟨y12, y13, hn, e⟩ := g_for (j := j) (kept := kept) (x12 := x12) (x13 := x13) (x14 := x14) (x15 := x15) (x16 := x16) F hc ht h13
  unfold segG
  refine ok_seqN e ?_
  show Ok (fSeq _ _ (stQ j n ps kept t (.val (.list ((dueL ps t).map mD))) (.own (.list ((rowsL ps t).map mD))) y12 y13 x14 x15 x16)) _
  refine ok_seqN (evSet (evCall (evCons rfl (evCons rfl evNil)) rfl (alike_due F hc ht))) ?_
  show Ok (segJ (stQ j n ps kept t (.val (.list ((dueL ps t).map mD))) (.val (.list ((rowsL ps t).map mD))) y12 y13 (.val (.tuple ((dueL ps t).map mD))) x15 x16)) _
  exact ok_segJ F hc m1 ht hk hn
end

end VL

/-! Y29: a lap of the law; the triangle. -/
namespace VL
open PySem PySem.Spec PyProof.Rows L2

section
variable {n : Nat} {ps : List (Nat × Nat)} {j : Nat} {x3 x4 x5 x6 x7 x8 x9 x10 x11 x12 x13 x14 x15 x16 : Slot}
def segD : Fx Flow := (fSeq (sPar 4 5 .v .v (fc lenD (fCons (f2 itemD (gw 3) (fun _ => mp (.int 1))) fNil)) (fc reprD (fCons (gw 3) fNil))) (fSeq (sPar 6 7 .v .v (fc tupleD (fCons (lcF (fR1 (fCons (gv 4) fNil)) (gSet 21) (fun _ => mp true) (fSrc 1 1 sem__law_pick (fCons (fun _ => mp (.int 2)) fNil)) [21]) fNil)) (fCall 1 sem__law_all_turnings (fCons (gv 4) fNil))) (fSeq (sPar 8 9 .v .v (fCall 1 sem__law_signs_of (fCons (gv 6) fNil)) (fCall 1 sem_simple_ring_rows (fCons (gv 3) fNil))) (fSeq (sPar 10 11 .o .o (fc lstD fNil) (fc lstD fNil)) segG))))
def segA : Fx Flow := (fSeq (sSet 3 (fSrc 1 2 sem__law_hung (fCons (f2 itemD (fc lstD (fCons (fun _ => mp (.int 3)) (fCons (fun _ => mp (.int 4)) (fCons (fun _ => mp (.int 5)) fNil)))) (gw 2)) (fCons (f2 itemD (fc lstD (fCons (fun _ => mp (.int 4)) (fCons (fun _ => mp (.int 6)) (fCons (fun _ => mp (.int 7)) fNil)))) (gw 2)) fNil)))) (fSeq (sSet 3 (fIf (fB (f2 neD (f2 itemD (gw 3) (fun _ => mp (.int 1))) (fc tupD fNil))) (gv 3) (fc tupD (fCons (fun _ => mp (.int 2)) (fCons (fc tupD (fCons (fc tupD (fCons (fun _ => mp (.int 0)) (fCons (fun _ => mp (.int 1)) fNil))) fNil)) fNil))))) segD))
theorem turn_ints {m : Nat} : ∀ {ds : List D}, ds.length = m → (∀ d ∈ ds, ∃ k : Nat, d = .int (k : Nat) ∧ k < 2) → ∃ t, ds = t.map PyData.int ∧ isTurn m t := fun {ds} hl h => by
  obtain ⟨is, e⟩ := ints_of fun d hd => let ⟨k, e, _⟩ := h d hd; ⟨_, e⟩
  subst e
  rw [List.length_map] at hl
  refine ⟨is, rfl, hl, fun x hx => ?_⟩
  obtain ⟨k, e, hk⟩ := h _ (List.mem_map_of_mem hx)
  injection e with e
  omega
theorem ok_segD (F : Fm n ps) (hc : Conn n ps) (m1 : 1 ≤ ps.length) (h13 : nO x13) : Ok (segD [.nil, .src, .val (.int (j : Nat)), .val (fD n ps), x4, x5, x6, x7, x8, x9, x10, x11, x12, x13, x14, x15, x16, .nil, .nil, .nil, .nil, .nil, .nil, .nil, .nil]) (fun fl => ∃ δ', fl = .nx δ' ∧ Rend δ') := by
  have m7 := F.m7
  obtain ⟨kept, hk⟩ := rep_frame F
  unfold segD
  refine ok_seqN (evPar (k1 := .v) (k2 := .v) (evc (evCons (ev2 rfl rfl (fD1 n ps)) evNil) ((len_t _).trans (by rw [List.length_map]))) (evc (evCons rfl evNil) hk)) ?_
  show Ok (fSeq _ _ [.nil, .src, .val (.int (j : Nat)), .val (fD n ps), .val (.int (ps.length : Nat)), .val (.str kept), x6, x7, x8, x9, x10, x11, x12, x13, x14, x15, x16, .nil, .nil, .nil, .nil, .nil, .nil, .nil, .nil]) _
  refine ok_seqPar (P1 := fun d => ∃ t, d = mD t ∧ isTurn ps.length t) (P2 := fun d => d = .list ((turns ps.length).map mD)) (ok_fc (ok_one (ok_lcM (W := fun zs : List Nat => zs.length = ps.length) (enc := fun i : Nat => PyData.int (i : Nat)) (P := fun d => ∃ k : Nat, d = .int (k : Nat) ∧ k < 2) (Ok.of (a := rngD 0 ps.length) (evR1 (evCons rfl evNil) (small16 (by omega))) ⟨List.range ps.length, rng0 _, List.length_range⟩) rfl fun zs _ x _ => ⟨_, rfl, (ok_pickI (m := 2) rfl rfl (by omega)).wk fun d ⟨k, e, hk⟩ => ⟨k, e, by omega⟩⟩)) fun xs ⟨a, e, ds, zs, e2, hz, hl, hd⟩ => ?_)
    (Ok.of (evCall (evCons rfl evNil) rfl (sp__law_all_turnings m7)) rfl) fun a b ⟨t, ea, ht⟩ eb => ?_
  · subst e e2
    obtain ⟨t, et, ht⟩ := turn_ints (hl.trans hz) hd
    exact ⟨_, rfl, t, by rw [et]; rfl, ht⟩
  subst ea eb
  show Ok (fSeq _ _ [.nil, .src, .val (.int (j : Nat)), .val (fD n ps), .val (.int (ps.length : Nat)), .val (.str kept), .val (mD t), .val (.list ((turns ps.length).map mD)), x8, x9, x10, x11, x12, x13, x14, x15, x16, .nil, .nil, .nil, .nil, .nil, .nil, .nil, .nil]) _
  refine ok_seqN (evPar (k1 := .v) (k2 := .v) (evCall (evCons rfl evNil) rfl (sp__law_signs_of (by rw [ht.1]; omega))) (evCall (evCons rfl evNil) rfl (sp_simple_ring_rows F).1)) ?_
  refine ok_seqN (evPar (k1 := .o) (k2 := .o) (evc evNil (lst_ok (Nat.zero_le _))) (evc evNil (lst_ok (Nat.zero_le _)))) ?_
  exact ok_segG F hc m1 ht hk h13
theorem fm2 : Fm 2 [(0, 1)] := ⟨by decide, by decide, by decide, by decide⟩
theorem conn2 : Conn 2 [(0, 1)] := fun S h0 hS c hc => by
  have h1 := hS (0, 1) (.head _)
  match c, hc with
  | 0, _ => exact h0
  | 1, _ => exact h1.mp h0
theorem cr_ev {δ : List Slot} (hj : j < 3) (h2 : gw 2 δ = mp (.int (j : Nat))) : ∃ c r : Nat, (fCons (f2 itemD (fc lstD (fCons (fun _ => mp (.int 3)) (fCons (fun _ => mp (.int 4)) (fCons (fun _ => mp (.int 5)) fNil)))) (gw 2)) (fCons (f2 itemD (fc lstD (fCons (fun _ => mp (.int 4)) (fCons (fun _ => mp (.int 6)) (fCons (fun _ => mp (.int 7)) fNil)))) (gw 2)) fNil)) δ = mp [.int (c : Nat), .int (r : Nat)] ∧ 1 ≤ c ∧ c ≤ 5 ∧ r ≤ 7 ∧ c ≤ r + 1 := by
  have l3 := small16 (show 3 ≤ 65536 by decide)
  have ev : ∀ (a b c d : Nat) (e f : Int), [PyData.int (a : Nat), .int (b : Nat), .int e][j]? = some (.int (c : Nat)) → True := fun _ _ _ _ _ _ _ => trivial
  match j, hj with
  | 0, _ => exact ⟨3, 4, evCons (ev2 (evc (evCons rfl (evCons rfl (evCons rfl evNil))) (lst_ok l3)) h2 (itemL_nat rfl)) (evCons (ev2 (evc (evCons rfl (evCons rfl (evCons rfl evNil))) (lst_ok l3)) h2 (itemL_nat rfl)) evNil), by decide⟩
  | 1, _ => exact ⟨4, 6, evCons (ev2 (evc (evCons rfl (evCons rfl (evCons rfl evNil))) (lst_ok l3)) h2 (itemL_nat rfl)) (evCons (ev2 (evc (evCons rfl (evCons rfl (evCons rfl evNil))) (lst_ok l3)) h2 (itemL_nat rfl)) evNil), by decide⟩
  | 2, _ => exact ⟨5, 7, evCons (ev2 (evc (evCons rfl (evCons rfl (evCons rfl evNil))) (lst_ok l3)) h2 (itemL_nat rfl)) (evCons (ev2 (evc (evCons rfl (evCons rfl (evCons rfl evNil))) (lst_ok l3)) h2 (itemL_nat rfl)) evNil), by decide⟩
theorem ok_segA (hj : j < 3) (h13 : nO x13) : Ok (segA [.nil, .src, .val (.int (j : Nat)), x3, x4, x5, x6, x7, x8, x9, x10, x11, x12, x13, x14, x15, x16, .nil, .nil, .nil, .nil, .nil, .nil, .nil, .nil]) (fun fl => ∃ δ', fl = .nx δ' ∧ Rend δ') := by
  unfold segA
  obtain ⟨c, r, e, h1, h2, h3, h4⟩ := cr_ev (δ := [.nil, .src, .val (.int (j : Nat)), x3, x4, x5, x6, x7, x8, x9, x10, x11, x12, x13, x14, x15, x16, .nil, .nil, .nil, .nil, .nil, .nil, .nil, .nil]) hj rfl
  refine ok_seqSet (P := fun d => ∃ (n : Nat) (ps : List (Nat × Nat)), d = fD n ps ∧ Fm n ps ∧ Conn n ps) (ok_srcI (P := fun ds => ds = [.int (c : Nat), .int (r : Nat)]) rfl (Ok.of e rfl) fun ds e => ?_) fun d ⟨n, ps, e, F, hc⟩ => ?_
  · subst e
    exact ⟨rfl, sp__law_hung h1 h2 h3 h4⟩
  · subst e
    by_cases hp : ps = []
    · subst hp
      refine ok_seqN (evSet (d := fD 2 [(0, 1)]) (evIfF (evB (ev2 (ev2 rfl rfl (fD1 n [])) (evc evNil (tup_ok (Nat.zero_le _))) (ne_unit _))) (evc (evCons rfl (evCons (evc (evCons (evc (evCons rfl (evCons rfl evNil)) (tup2 _ _)) evNil) (tup_ok (small16 (by show 1 ≤ 65536; decide)))) evNil)) (tup2 _ _)))) ?_
      exact ok_segD fm2 conn2 (by decide) h13
    · refine ok_seqN (evSet (d := fD n ps) (evIfT (evB (ev2 (ev2 rfl rfl (fD1 n ps)) (evc evNil (tup_ok (Nat.zero_le _))) ((ne_unit _).trans (by
        cases ps with
        | nil => exact absurd rfl hp
        | cons a b => rfl)))) rfl)) ?_
      exact ok_segD F hc (List.length_pos_iff.mpr hp) h13
end
/-! ### the triangle -/
section
def tri : List (Nat × Nat) := [(0, 1), (1, 2), (2, 0)]
theorem tri_F : Fm 3 tri := ⟨by decide, by decide, by decide, by decide⟩
theorem tri_conn : Conn 3 tri := fun S h0 hS c hc => by
  have h1 := hS (0, 1) (.head _)
  have h2 := hS (1, 2) (.tail _ (.head _))
  match c, hc with
  | 0, _ => exact h0
  | 1, _ => exact h1.mp h0
  | 2, _ => exact h2.mp (h1.mp h0)
def cls (t : List Int) : List (List Int) := (turns 3).filter fun x => decide (x.sum = t.sum)
theorem three {m : List Int} (h : m.length = 3) : ∃ a b c, m = [a, b, c] := by
  match m, h with
  | [a, b, c], _ => exact ⟨a, b, c, rfl⟩
theorem tri_due {t : List Int} (ht : isTurn 3 t) : dueL tri t = cls t := by
  unfold dueL cls
  refine List.filter_congr fun x hx => ?_
  have hx' := mem_turns.mp hx
  obtain ⟨a, b, c, rfl⟩ := three ht.1
  obtain ⟨d, e, f, rfl⟩ := three hx'.1
  rw [Bool.eq_iff_iff, cutB_iff, decide_eq_true_iff]
  show (∃ h : Nat → Int, ∀ r, r < 3 → (diffZ [d, e, f] [a, b, c]).getD r 0 = h (tri.getD r (0, 0)).2 - h (tri.getD r (0, 0)).1) ↔ _
  constructor
  · rintro ⟨h, hh⟩
    have h0 : d - a = h 1 - h 0 := hh 0 (by decide)
    have h1 : e - b = h 2 - h 1 := hh 1 (by decide)
    have h2 : f - c = h 0 - h 2 := hh 2 (by decide)
    simp only [List.sum_cons, List.sum_nil]
    omega
  · intro hs
    simp only [List.sum_cons, List.sum_nil] at hs
    refine ⟨fun k => if k = 0 then 0 else if k = 1 then d - a else d - a + (e - b), fun r hr => ?_⟩
    match r, hr with
    | 0, _ => show d - a = (d - a) - 0; omega
    | 1, _ => show e - b = (d - a + (e - b)) - (d - a); omega
    | 2, _ => show f - c = 0 - (d - a + (e - b)); omega
theorem tri_alike {t : List Int} (ht : isTurn 3 t) : sem_alike_by_cuts [fD 3 tri, mD t] = some (.tuple ((cls t).map mD)) := by
  rw [← tri_due ht]
  exact alike_due tri_F tri_conn ht
def bTri : Fx Flow := (fSeq (sSet 19 (fCall 2 sem_alike_by_cuts (fCons (gv 3) (fCons (f2 itemD (gw 17) (fun _ => mp (.int 0))) fNil)))) (sPar 17 18 .v .v (lcF (fSq (gv 17)) (gSet 20) (fB (f2 notInD (gw 20) (gw 19))) (gv 20) [20]) (f2 addD (gw 18) (fun _ => mp (.int 1)))))
def stT (x : List Slot) (s : List (List Int) × Nat) (x19 : Slot) : List Slot := x ++ [.val (.list (s.1.map mD)), .val (.int (s.2 : Nat)), x19, .nil, .nil, .nil, .nil, .nil]
def stepT (s : List (List Int) × Nat) : List (List Int) × Nat := match s.1 with
  | [] => s
  | t :: _ => (s.1.filter fun x => !decide (x ∈ cls t), s.2 + 1)
def condT (s : List (List Int) × Nat) : Bool := !s.1.isEmpty
theorem run_tri : runW condT stepT 12 (turns 3, 0) = some ([], 4) := by decide +kernel
theorem law_end (y2 y4 y5 y6 y7 y8 y9 y10 y11 y12 y13 y14 y15 y16 x3 : Slot) : ((fSeq (sPar3 17 18 3 .v .v (fCall 1 sem__law_all_turnings (fCons (fun _ => mp (.int 3)) fNil)) (fun _ => mp (.int 0)) (fc tupD (fCons (fun _ => mp (.int 3)) (fCons (fc tupD (fCons (fc tupD (fCons (fun _ => mp (.int 0)) (fCons (fun _ => mp (.int 1)) fNil))) (fCons (fc tupD (fCons (fun _ => mp (.int 1)) (fCons (fun _ => mp (.int 2)) fNil))) (fCons (fc tupD (fCons (fun _ => mp (.int 2)) (fCons (fun _ => mp (.int 0)) fNil))) fNil)))) fNil)))) (fSeq (whF (fB (f2 neD (gw 17) (fc lstD fNil))) bTri fuel_law) (sRet (vAnd (f2 eqD (gw 18) (fun _ => mp (.int 4))) (f2 eqD (fCall 2 sem_alike_by_cuts (fCons (gv 3) (fCons (fc tupD (fCons (fun _ => mp (.int 0)) (fCons (fun _ => mp (.int 0)) (fCons (fun _ => mp (.int 1)) fNil)))) fNil))) (fc tupD (fCons (fc tupD (fCons (fun _ => mp (.int 0)) (fCons (fun _ => mp (.int 0)) (fCons (fun _ => mp (.int 1)) fNil)))) (fCons (fc tupD (fCons (fun _ => mp (.int 0)) (fCons (fun _ => mp (.int 1)) (fCons (fun _ => mp (.int 0)) fNil)))) (fCons (fc tupD (fCons (fun _ => mp (.int 1)) (fCons (fun _ => mp (.int 0)) (fCons (fun _ => mp (.int 0)) fNil)))) fNil))))))))) : Fx Flow) [.nil, .src, y2, x3, y4, y5, y6, y7, y8, y9, y10, y11, y12, y13, y14, y15, y16, .nil, .nil, .nil, .nil, .nil, .nil, .nil, .nil] = mp (.rt (.bool true)) := by
  let pre : List Slot := [.nil, .src, y2, .val (fD 3 tri), y4, y5, y6, y7, y8, y9, y10, y11, y12, y13, y14, y15, y16]
  have e0 : ((sPar3 17 18 3 .v .v (fCall 1 sem__law_all_turnings (fCons (fun _ => mp (.int 3)) fNil)) (fun _ => mp (.int 0)) (fc tupD (fCons (fun _ => mp (.int 3)) (fCons (fc tupD (fCons (fc tupD (fCons (fun _ => mp (.int 0)) (fCons (fun _ => mp (.int 1)) fNil))) (fCons (fc tupD (fCons (fun _ => mp (.int 1)) (fCons (fun _ => mp (.int 2)) fNil))) (fCons (fc tupD (fCons (fun _ => mp (.int 2)) (fCons (fun _ => mp (.int 0)) fNil))) fNil)))) fNil)))) : Fx Flow) [.nil, .src, y2, x3, y4, y5, y6, y7, y8, y9, y10, y11, y12, y13, y14, y15, y16, .nil, .nil, .nil, .nil, .nil, .nil, .nil, .nil] = mp (.nx (stT pre (turns 3, 0) .nil)) := by
    unfold sPar3
    rw [evCall (n := 1) (foo := sem__law_all_turnings) (fr := fCons (fun _ => mp (.int 3)) fNil) (xs := [.int ((3 : Nat) : Int)]) rfl rfl (sp__law_all_turnings (m := 3) (by decide)), mb_mp, mb_mp]
    rw [evc (h := tupD) (d := fD 3 tri) (evCons rfl (evCons (evc (evCons (evc (evCons rfl (evCons rfl evNil)) (tup2 _ _)) (evCons (evc (evCons rfl (evCons rfl evNil)) (tup2 _ _)) (evCons (evc (evCons rfl (evCons rfl evNil)) (tup2 _ _)) evNil))) (tup_ok (small16 (by show 3 ≤ 65536; decide)))) evNil)) (tup2 _ _), mb_mp]
    rfl
  obtain ⟨δ', e1, _, x19, e2⟩ := whF_pure (c := fB (f2 neD (gw 17) (fc lstD fNil))) (b := bTri) (rep := fun s δ => ((∀ x ∈ s.1, isTurn 3 x) ∧ s.1.length ≤ 8) ∧ ∃ x19, δ = stT pre s x19) condT stepT (fun s δ ⟨⟨hs, hl8⟩, x19, e⟩ => by
    subst e
    refine ⟨evB (ev2 rfl (evc evNil (lst_ok (Nat.zero_le _))) ((ne_nil _).trans (by rw [isEmpty_map]; rfl))), fun hc => ?_⟩
    obtain ⟨L, k⟩ := s
    cases L with
    | nil => cases hc
    | cons t L =>
      have ht : isTurn 3 t := hs t (.head _)
      refine ⟨stT pre (stepT (t :: L, k)) (.val (.tuple ((cls t).map mD))), ?_, ⟨fun x hx => hs x (List.mem_filter.mp hx).1, Nat.le_trans (List.length_filter_le _ _) hl8⟩, _, rfl⟩
      have l8 : (t :: L).length ≤ 8 := hl8
      unfold bTri
      refine evSeq (δ' := stT pre (t :: L, k) (.val (.tuple ((cls t).map mD)))) (evSet (evCall (evCons rfl (evCons (ev2 rfl rfl (itemL_nat (i := 0) rfl)) evNil)) rfl (tri_alike ht))) ?_
      refine evPar (k1 := .v) (k2 := .v) (a := .list (((t :: L).filter fun x => !decide (x ∈ cls t)).map mD)) (b := .int ((k + 1 : Nat))) (evLc (enc := mD) (zs := t :: L) (fun x => !decide (x ∈ cls t)) (fun x => mD x) (evSq rfl (seq_l (by rw [List.length_map]; exact small16 (by omega)))) rfl fun x _ => ⟨_, rfl, evB (ev2 rfl rfl (notin_rowsT x (cls t))), fun _ => rfl⟩) (ev2 rfl rfl ?_)
      rw [Int.natCast_add]; rfl) 12 (turns 3, 0) ([], 4) (stT pre (turns 3, 0) .nil) ⟨⟨fun x hx => mem_turns.mp hx, by decide⟩, .nil, rfl⟩ run_tri
  subst e2
  refine evSeq e0 (evSeq e1 (evRet ?_))
  refine Eq.trans (evVAnd (c := decide (((4 : Nat) : Int) = 4)) (c2 := decide (cls [0, 0, 1] = [[0, 0, 1], [0, 1, 0], [1, 0, 0]])) (ev2 rfl rfl (eq_int _ _)) fun _ => ev2 (a := .tuple ((cls [0, 0, 1]).map mD)) (b := .tuple ([[0, 0, 1], [0, 1, 0], [1, 0, 0]].map mD)) (evCall (evCons rfl (evCons (evc (evCons rfl (evCons rfl (evCons rfl evNil))) (tup3 _ _ _)) evNil)) rfl (tri_alike (t := [0, 0, 1]) ⟨rfl, by decide⟩)) (evc (evCons (evc (evCons rfl (evCons rfl (evCons rfl evNil))) (tup3 _ _ _)) (evCons (evc (evCons rfl (evCons rfl (evCons rfl evNil))) (tup3 _ _ _)) (evCons (evc (evCons rfl (evCons rfl (evCons rfl evNil))) (tup3 _ _ _)) evNil))) (tup3 _ _ _)) (eq_rowsT (cls [0, 0, 1]) [[0, 0, 1], [0, 1, 0], [1, 0, 0]])) ?_
  rw [show (decide (((4 : Nat) : Int) = 4) && decide (cls [0, 0, 1] = [[0, 0, 1], [0, 1, 0], [1, 0, 0]])) = true from by decide +kernel]
end

end VL

/-! Y30: the law is true. -/
namespace VL
open PySem PySem.Spec PyProof.Rows L2

theorem b_law_eq : b_law = fSeq (sFor (fR1 (fCons (fun _ => mp (.int 3)) fNil)) (gSet 2) segA) ((fSeq (sPar3 17 18 3 .v .v (fCall 1 sem__law_all_turnings (fCons (fun _ => mp (.int 3)) fNil)) (fun _ => mp (.int 0)) (fc tupD (fCons (fun _ => mp (.int 3)) (fCons (fc tupD (fCons (fc tupD (fCons (fun _ => mp (.int 0)) (fCons (fun _ => mp (.int 1)) fNil))) (fCons (fc tupD (fCons (fun _ => mp (.int 1)) (fCons (fun _ => mp (.int 2)) fNil))) (fCons (fc tupD (fCons (fun _ => mp (.int 2)) (fCons (fun _ => mp (.int 0)) fNil))) fNil)))) fNil)))) (fSeq (whF (fB (f2 neD (gw 17) (fc lstD fNil))) bTri fuel_law) (sRet (vAnd (f2 eqD (gw 18) (fun _ => mp (.int 4))) (f2 eqD (fCall 2 sem_alike_by_cuts (fCons (gv 3) (fCons (fc tupD (fCons (fun _ => mp (.int 0)) (fCons (fun _ => mp (.int 0)) (fCons (fun _ => mp (.int 1)) fNil)))) fNil))) (fc tupD (fCons (fc tupD (fCons (fun _ => mp (.int 0)) (fCons (fun _ => mp (.int 0)) (fCons (fun _ => mp (.int 1)) fNil)))) (fCons (fc tupD (fCons (fun _ => mp (.int 0)) (fCons (fun _ => mp (.int 1)) (fCons (fun _ => mp (.int 0)) fNil)))) (fCons (fc tupD (fCons (fun _ => mp (.int 1)) (fCons (fun _ => mp (.int 0)) (fCons (fun _ => mp (.int 0)) fNil)))) fNil)))))))))) := rfl
theorem law_ok : Ok (b_law δlaw) (fun fl => fl = .rt (.bool true)) := by
  rw [b_law_eq]
  refine ok_seqX (ok_sFor (W := fun xs : List Nat => xs = List.range 3) (enc := fun i : Nat => PyData.int (i : Nat)) (R := fun _ δ => Rend δ) (Ok.of (a := rngD 0 3) (evR1 (n := 3) (evCons rfl evNil) (small16 (by show 3 ≤ 65536; decide))) ⟨List.range 3, rng0 3, rfl⟩) (fun xs exs i x δ hi h => ?_) ⟨.nil, .nil, .nil, .nil, .nil, .nil, .nil, .nil, .nil, .nil, .nil, .nil, .nil, .nil, .nil, fun d h => (by cases h), rfl⟩) fun δ ⟨_, _, h⟩ => ?_
  · subst exs
    obtain ⟨x2, x3, x4, x5, x6, x7, x8, x9, x10, x11, x12, x13, x14, x15, x16, h13, e⟩ := h
    subst e
    have hx := List.mem_range.mp (List.mem_of_getElem? hi)
    exact ⟨_, rfl, ok_segA hx h13⟩
  · obtain ⟨x2, x3, x4, x5, x6, x7, x8, x9, x10, x11, x12, x13, x14, x15, x16, h13, e⟩ := h
    subst e
    exact Ok.of (law_end x2 x4 x5 x6 x7 x8 x9 x10 x11 x12 x13 x14 x15 x16 x3) rfl
theorem lawTrue : LawTrue := fun ns hn => by
  obtain ⟨fl, st', e, _, hf⟩ := law_ok (srcOf ns) (by
    show ((ns.map absI).reverse).length ≤ 63
    rw [List.length_reverse, List.length_map]; exact hn)
  subst hf
  exact ⟨st', e⟩

end VL

set_option maxHeartbeats 4000000

/-! The end: from LawTrue to the statement. Printed by genend.py. -/
namespace VL
open PySem PySem.Spec PyProof.Rows L2
/-- the script's list as the only thing that is tracked, unless the module itself holds it -/
def onlyA (K : PySem.W.Frag) (a : Addr) (o : Obj) (xs : List V) : Hp := fun b => if b = a ∧ K.lookup a = none then some (.frz o (.lst xs)) else none
theorem onlyA_some {K : PySem.W.Frag} {a b : Addr} {o : Obj} {xs : List V} {u : HO} (h : onlyA K a o xs b = some u) : b = a ∧ K.lookup a = none ∧ u = .frz o (.lst xs) := by
  unfold onlyA at h
  by_cases c : b = a ∧ K.lookup a = none
  · rw [if_pos c] at h
    exact ⟨c.1, c.2, (Option.some.inj h).symm⟩
  · rw [if_neg c] at h
    cases h
/-- the law's def, called behind the top: its promise may ask that no repr runs around -/
theorem law_callG {P : Program} {w : World} {K : PySem.W.Frag} {mg mb : Str → Option Value} {k : Nat} {fa a : Addr} {fd : FuncData} {x : Str} {s₁ : Shared} {vs : List Value} {ns : List Int}
    (KX : K.In s₁.heap) (hns : s₁.heap.Ns mainGlobals mg) (hb : s₁.heap.Ns builtinsNs mb) (hbb : ∀ x : Str, x ≠ "__name__" → mb x = bootBuiltins x) (hlim : s₁.heap.NoLimit) (hg : s₁.gens = #[])
    (ha : s₁.heap.get? a = some { cls := .type "list", data := .seq vs.toArray }) (hi : IntsAre vs ns) (hl : ns.length ≤ 63) (hr : RoomG k callerA)
    (F : ∀ base : Heap, K.In base → base.Ns mainGlobals mg → FnG P w K mg base k fa fd [x] (spLawG K)) (hbind : ∀ (s : Shared) (u : Value), BindsTo s fd ⟨[u], []⟩ [(x, u)]) :
    codeAny (model P w) callerA (.call (.ref fa) ⟨[.ref a], []⟩) (fun r s' => r = .ok (.ret (.bool true)) ∧ OldK s₁.heap s'.heap ∧ s'.os = s₁.os ∧ AllBare s'.gens) s₁ := by
  have rv := vals_ints hi
  have hz : ns.length ≤ sizeLine := Nat.le_trans hl (by decide)
  let o : Obj := { cls := .type "list", data := .seq vs.toArray }
  let H : Hp := onlyA K a o (ns.map V.int)
  have hok : HOk P w H s₁.heap := fun b u e => by
    obtain ⟨rfl, _, rfl⟩ := onlyA_some e
    exact ⟨ha, by rw [List.length_map]; exact hz, vs, _, rv, ha⟩
  have hS : SqL K H a (ns.map V.int) := by
    cases hk : K.lookup a with
    | none => exact .inl (.inr ⟨o, if_pos ⟨rfl, hk⟩⟩)
    | some o' =>
      have e := KX a o' hk
      rw [ha] at e
      cases e
      exact .inr ⟨_, vs.toArray, _, hk, rfl, rfl, rfl, by rw [List.size_toArray, hi.length]; exact hz, by simpa using rv⟩
  have free : ∀ {b : Addr} {ob : Obj}, s₁.heap.get? b = some ob → (b = a → K.lookup a = none → False) → (hidT s₁.heap H).get? b = some ob := fun {b ob} e n => hidT_get e (by
    cases q : H b with
    | none => rfl
    | some u =>
      obtain ⟨h1, h2, _⟩ := onlyA_some q
      exact (n h1 h2).elim)
  have nsK : ∀ {b : Addr} {m : Str → Option Value}, s₁.heap.Ns b m → (hidT s₁.heap H).Ns b m := fun {b m} ⟨ob, es, ep, e, d, r⟩ => ⟨ob, es, ep, free e (fun z _ => by
    rw [z, ha] at e
    cases e
    have d' : Data.seq vs.toArray _ = Data.dict es ep := d
    cases d'), d, r⟩
  have hKb : K.In (hidT s₁.heap H) := fun b ob e => free (KX b ob e) fun z z2 => by rw [z, z2] at e; cases e
  have hM : Mod K mg (hidT s₁.heap H) := ⟨hKb, nsK hns, ⟨mb, nsK hb, hbb⟩, let ⟨mc, h1, h2⟩ := hlim; ⟨mc, nsK h1, h2⟩⟩
  have e0 : Env0 P w K mg (hidT s₁.heap H) callerA [] s₁ H := ⟨rfl, hM, fun b ob e => of_hidT e, Nat.le_of_eq (hidT_size _ _), trivial, fun b hb => absurd (show b ∈ ([] : List Addr) from hb) (by simp), hok, .of_eq hg⟩
  refine codeAny_mono ((F _ hKb (nsK hns)).go callerA [] s₁ H ⟨[.ref a], []⟩ [.ref a] [.ref a] (fun v _ => v = .bl true) (fun _ _ _ => False) hr e0 (hbind s₁ (.ref a)) (.cons rfl .nil) ⟨a, ns, rfl, hS, hl, fun _ => rfl⟩) fun r s' h => ?_
  cases r with
  | error e => exact False.elim h
  | ok fl =>
    cases fl with
    | ret u =>
      obtain ⟨v, H', os, bare, un, hok', r', q⟩ := h
      obtain rfl : v = .bl true := q
      obtain rfl : u = Value.bool true := r'
      refine ⟨rfl, OldK.of_keep fun b ob e => ?_, os, bare⟩
      cases q : H b with
      | none => exact un.keep b ob e q (by intro z; exact absurd (show b ∈ ([] : List Addr) from z) (by simp)) (by simp)
      | some u =>
        obtain ⟨_, _, hu⟩ := onlyA_some q
        subst hu
        obtain ⟨e1, _⟩ := hok b _ q
        obtain ⟨e2, _⟩ := hok' b _ (un.frzs b o _ q)
        rw [e] at e1
        cases e1
        exact e2
    | _ => exact False.elim h
theorem walk_ofG {l : PySem.W.OpenLaw} {n k : Nat} {q : Program} {loose : List Str} {XP : (Str → Option Value) → Heap → Prop} {YP : World → Heap → Prop} {d : DefRec} {K : Params → PySem.W.Frag} {x : Str}
    (hn : l.most = some n) (hn2 : n ≤ 63) (hdf : d.params.defaults = []) (hr : RoomG k callerA)
    (hY : ∀ (w : World) (h : Heap), YP w h → (K w.params).In h)
    (F : ∀ (w : World) (mg : Str → Option Value) (fa : Addr) (h : Heap), (K w.params).In h → h.Ns mainGlobals mg → mg d.name = some (.ref fa) →
      ∃ fd : FuncData, (∀ (s : Shared) (u : Value), BindsTo s fd ⟨[u], []⟩ [(x, u)]) ∧
        ∀ base : Heap, (K w.params).In base → base.Ns mainGlobals mg → FnG l.prog w (K w.params) mg base k fa fd [x] (spLawG (K w.params))) :
    PySem.W.WalkO q loose XP YP l.row.toRowW d [] (fun f vs => PySem.call f vs) := by
  refine Att.attach_call hn hdf fun w s₀ s₁ mg mb fa o pm cd doc a vs ns G Y ho hd hcd hmg hobj hints hlen hg => ?_
  have KX := hY w _ Y
  obtain ⟨fd, hb, hF⟩ := F w mg fa _ KX G.T.g hmg
  exact law_callG KX G.T.g G.T.b G.T.builtins G.T.nolimit hg hobj hints (Nat.le_trans hlen hn2) hr hF hb

theorem all_mk (ht : LawTrue) {P : Program} {w : World} {K : PySem.W.Frag} {h : Heap} {mg : Str → Option Value} {fa : Addr} (X : K.In h) (G : h.Ns mainGlobals mg) (hfa : mg "law" = some (.ref fa))
    {f_heads_by : Addr} {od_heads_by an_heads_by : Option Addr} {sl_heads_by : Array (Option Value)} {oc_heads_by kV_heads_by dc_heads_by pm_heads_by cd_heads_by ct_heads_by : Value}
    {f_pieces_by : Addr} {od_pieces_by an_pieces_by : Option Addr} {sl_pieces_by : Array (Option Value)} {oc_pieces_by kV_pieces_by dc_pieces_by pm_pieces_by cd_pieces_by ct_pieces_by : Value}
    {f_piece_count : Addr} {od_piece_count an_piece_count : Option Addr} {sl_piece_count : Array (Option Value)} {oc_piece_count kV_piece_count dc_piece_count pm_piece_count cd_piece_count ct_piece_count : Value}
    {f_row_of_lot : Addr} {od_row_of_lot an_row_of_lot : Option Addr} {sl_row_of_lot : Array (Option Value)} {oc_row_of_lot kV_row_of_lot dc_row_of_lot pm_row_of_lot cd_row_of_lot ct_row_of_lot : Value}
    {f_is_one_way_cut : Addr} {od_is_one_way_cut an_is_one_way_cut : Option Addr} {sl_is_one_way_cut : Array (Option Value)} {oc_is_one_way_cut kV_is_one_way_cut dc_is_one_way_cut pm_is_one_way_cut cd_is_one_way_cut ct_is_one_way_cut : Value}
    {f_all_crossing_lots : Addr} {od_all_crossing_lots an_all_crossing_lots : Option Addr} {sl_all_crossing_lots : Array (Option Value)} {oc_all_crossing_lots kV_all_crossing_lots dc_all_crossing_lots pm_all_crossing_lots cd_all_crossing_lots ct_all_crossing_lots : Value}
    {f_hangs_within : Addr} {od_hangs_within an_hangs_within : Option Addr} {sl_hangs_within : Array (Option Value)} {oc_hangs_within kV_hangs_within dc_hangs_within pm_hangs_within cd_hangs_within ct_hangs_within : Value}
    {f_least_cut_parts : Addr} {od_least_cut_parts an_least_cut_parts : Option Addr} {sl_least_cut_parts : Array (Option Value)} {oc_least_cut_parts kV_least_cut_parts dc_least_cut_parts pm_least_cut_parts cd_least_cut_parts ct_least_cut_parts : Value}
    {f_rest_row : Addr} {od_rest_row an_rest_row : Option Addr} {sl_rest_row : Array (Option Value)} {oc_rest_row kV_rest_row dc_rest_row pm_rest_row cd_rest_row ct_rest_row : Value}
    {f_cut_near_paper : Addr} {od_cut_near_paper an_cut_near_paper : Option Addr} {sl_cut_near_paper : Array (Option Value)} {oc_cut_near_paper kV_cut_near_paper dc_cut_near_paper pm_cut_near_paper cd_cut_near_paper ct_cut_near_paper : Value}
    {f_nearest_cut_row : Addr} {od_nearest_cut_row an_nearest_cut_row : Option Addr} {sl_nearest_cut_row : Array (Option Value)} {oc_nearest_cut_row kV_nearest_cut_row dc_nearest_cut_row pm_nearest_cut_row cd_nearest_cut_row ct_nearest_cut_row : Value}
    {f_nearest_cut_rows : Addr} {od_nearest_cut_rows an_nearest_cut_rows : Option Addr} {sl_nearest_cut_rows : Array (Option Value)} {oc_nearest_cut_rows kV_nearest_cut_rows dc_nearest_cut_rows pm_nearest_cut_rows cd_nearest_cut_rows ct_nearest_cut_rows : Value}
    {f_alike_by_cuts : Addr} {od_alike_by_cuts an_alike_by_cuts : Option Addr} {sl_alike_by_cuts : Array (Option Value)} {oc_alike_by_cuts kV_alike_by_cuts dc_alike_by_cuts pm_alike_by_cuts cd_alike_by_cuts ct_alike_by_cuts : Value}
    {f_row_product : Addr} {od_row_product an_row_product : Option Addr} {sl_row_product : Array (Option Value)} {oc_row_product kV_row_product dc_row_product pm_row_product cd_row_product ct_row_product : Value}
    {f_turned_row : Addr} {od_turned_row an_turned_row : Option Addr} {sl_turned_row : Array (Option Value)} {oc_turned_row kV_turned_row dc_turned_row pm_turned_row cd_turned_row ct_turned_row : Value}
    {f_steps_on : Addr} {od_steps_on an_steps_on : Option Addr} {sl_steps_on : Array (Option Value)} {oc_steps_on kV_steps_on dc_steps_on pm_steps_on cd_steps_on ct_steps_on : Value}
    {f_rings_from : Addr} {od_rings_from an_rings_from : Option Addr} {sl_rings_from : Array (Option Value)} {oc_rings_from kV_rings_from dc_rings_from pm_rings_from cd_rings_from ct_rings_from : Value}
    {f_simple_ring_rows : Addr} {od_simple_ring_rows an_simple_ring_rows : Option Addr} {sl_simple_ring_rows : Array (Option Value)} {oc_simple_ring_rows kV_simple_ring_rows dc_simple_ring_rows pm_simple_ring_rows cd_simple_ring_rows ct_simple_ring_rows : Value}
    {f__law_source : Addr} {od__law_source an__law_source : Option Addr} {sl__law_source : Array (Option Value)} {oc__law_source kV__law_source dc__law_source pm__law_source cd__law_source ct__law_source : Value}
    {f__law_pick : Addr} {od__law_pick an__law_pick : Option Addr} {sl__law_pick : Array (Option Value)} {oc__law_pick kV__law_pick dc__law_pick pm__law_pick cd__law_pick ct__law_pick : Value}
    {f__law_of : Addr} {od__law_of an__law_of : Option Addr} {sl__law_of : Array (Option Value)} {oc__law_of kV__law_of dc__law_of pm__law_of cd__law_of ct__law_of : Value}
    {f__law_mixed : Addr} {od__law_mixed an__law_mixed : Option Addr} {sl__law_mixed : Array (Option Value)} {oc__law_mixed kV__law_mixed dc__law_mixed pm__law_mixed cd__law_mixed ct__law_mixed : Value}
    {f__law_hung : Addr} {od__law_hung an__law_hung : Option Addr} {sl__law_hung : Array (Option Value)} {oc__law_hung kV__law_hung dc__law_hung pm__law_hung cd__law_hung ct__law_hung : Value}
    {f__law_rising : Addr} {od__law_rising an__law_rising : Option Addr} {sl__law_rising : Array (Option Value)} {oc__law_rising kV__law_rising dc__law_rising pm__law_rising cd__law_rising ct__law_rising : Value}
    {f__law_heights : Addr} {od__law_heights an__law_heights : Option Addr} {sl__law_heights : Array (Option Value)} {oc__law_heights kV__law_heights dc__law_heights pm__law_heights cd__law_heights ct__law_heights : Value}
    {f__law_all_turnings : Addr} {od__law_all_turnings an__law_all_turnings : Option Addr} {sl__law_all_turnings : Array (Option Value)} {oc__law_all_turnings kV__law_all_turnings dc__law_all_turnings pm__law_all_turnings cd__law_all_turnings ct__law_all_turnings : Value}
    {f__law_signs_of : Addr} {od__law_signs_of an__law_signs_of : Option Addr} {sl__law_signs_of : Array (Option Value)} {oc__law_signs_of kV__law_signs_of dc__law_signs_of pm__law_signs_of cd__law_signs_of ct__law_signs_of : Value}
    {f_law : Addr} {od_law an_law : Option Addr} {sl_law : Array (Option Value)} {oc_law kV_law dc_law pm_law cd_law ct_law : Value}
    (a_heads_by : PySem.W.nsIn K mainGlobals "heads_by" = some (some (.ref f_heads_by))) (l_heads_by : K.lookup f_heads_by = some ⟨oc_heads_by, od_heads_by, .func (PySem.W.fnOf "heads_by" "heads_by" (defArgs s_heads_by) (defBody s_heads_by) (defScope s_heads_by) .none kV_heads_by dc_heads_by pm_heads_by an_heads_by cd_heads_by ct_heads_by), sl_heads_by⟩) (c_heads_by : PySem.W.codeIn K cd_heads_by "heads_by" = true) (k_heads_by : PySem.W.keepIn K (.ref f_heads_by) = true)
    (a_pieces_by : PySem.W.nsIn K mainGlobals "pieces_by" = some (some (.ref f_pieces_by))) (l_pieces_by : K.lookup f_pieces_by = some ⟨oc_pieces_by, od_pieces_by, .func (PySem.W.fnOf "pieces_by" "pieces_by" (defArgs s_pieces_by) (defBody s_pieces_by) (defScope s_pieces_by) .none kV_pieces_by dc_pieces_by pm_pieces_by an_pieces_by cd_pieces_by ct_pieces_by), sl_pieces_by⟩) (c_pieces_by : PySem.W.codeIn K cd_pieces_by "pieces_by" = true) (k_pieces_by : PySem.W.keepIn K (.ref f_pieces_by) = true)
    (a_piece_count : PySem.W.nsIn K mainGlobals "piece_count" = some (some (.ref f_piece_count))) (l_piece_count : K.lookup f_piece_count = some ⟨oc_piece_count, od_piece_count, .func (PySem.W.fnOf "piece_count" "piece_count" (defArgs s_piece_count) (defBody s_piece_count) (defScope s_piece_count) .none kV_piece_count dc_piece_count pm_piece_count an_piece_count cd_piece_count ct_piece_count), sl_piece_count⟩) (c_piece_count : PySem.W.codeIn K cd_piece_count "piece_count" = true) (k_piece_count : PySem.W.keepIn K (.ref f_piece_count) = true)
    (a_row_of_lot : PySem.W.nsIn K mainGlobals "row_of_lot" = some (some (.ref f_row_of_lot))) (l_row_of_lot : K.lookup f_row_of_lot = some ⟨oc_row_of_lot, od_row_of_lot, .func (PySem.W.fnOf "row_of_lot" "row_of_lot" (defArgs s_row_of_lot) (defBody s_row_of_lot) (defScope s_row_of_lot) .none kV_row_of_lot dc_row_of_lot pm_row_of_lot an_row_of_lot cd_row_of_lot ct_row_of_lot), sl_row_of_lot⟩) (c_row_of_lot : PySem.W.codeIn K cd_row_of_lot "row_of_lot" = true) (k_row_of_lot : PySem.W.keepIn K (.ref f_row_of_lot) = true)
    (a_is_one_way_cut : PySem.W.nsIn K mainGlobals "is_one_way_cut" = some (some (.ref f_is_one_way_cut))) (l_is_one_way_cut : K.lookup f_is_one_way_cut = some ⟨oc_is_one_way_cut, od_is_one_way_cut, .func (PySem.W.fnOf "is_one_way_cut" "is_one_way_cut" (defArgs s_is_one_way_cut) (defBody s_is_one_way_cut) (defScope s_is_one_way_cut) .none kV_is_one_way_cut dc_is_one_way_cut pm_is_one_way_cut an_is_one_way_cut cd_is_one_way_cut ct_is_one_way_cut), sl_is_one_way_cut⟩) (c_is_one_way_cut : PySem.W.codeIn K cd_is_one_way_cut "is_one_way_cut" = true) (k_is_one_way_cut : PySem.W.keepIn K (.ref f_is_one_way_cut) = true)
    (a_all_crossing_lots : PySem.W.nsIn K mainGlobals "all_crossing_lots" = some (some (.ref f_all_crossing_lots))) (l_all_crossing_lots : K.lookup f_all_crossing_lots = some ⟨oc_all_crossing_lots, od_all_crossing_lots, .func (PySem.W.fnOf "all_crossing_lots" "all_crossing_lots" (defArgs s_all_crossing_lots) (defBody s_all_crossing_lots) (defScope s_all_crossing_lots) .none kV_all_crossing_lots dc_all_crossing_lots pm_all_crossing_lots an_all_crossing_lots cd_all_crossing_lots ct_all_crossing_lots), sl_all_crossing_lots⟩) (c_all_crossing_lots : PySem.W.codeIn K cd_all_crossing_lots "all_crossing_lots" = true) (k_all_crossing_lots : PySem.W.keepIn K (.ref f_all_crossing_lots) = true)
    (a_hangs_within : PySem.W.nsIn K mainGlobals "hangs_within" = some (some (.ref f_hangs_within))) (l_hangs_within : K.lookup f_hangs_within = some ⟨oc_hangs_within, od_hangs_within, .func (PySem.W.fnOf "hangs_within" "hangs_within" (defArgs s_hangs_within) (defBody s_hangs_within) (defScope s_hangs_within) .none kV_hangs_within dc_hangs_within pm_hangs_within an_hangs_within cd_hangs_within ct_hangs_within), sl_hangs_within⟩) (c_hangs_within : PySem.W.codeIn K cd_hangs_within "hangs_within" = true) (k_hangs_within : PySem.W.keepIn K (.ref f_hangs_within) = true)
    (a_least_cut_parts : PySem.W.nsIn K mainGlobals "least_cut_parts" = some (some (.ref f_least_cut_parts))) (l_least_cut_parts : K.lookup f_least_cut_parts = some ⟨oc_least_cut_parts, od_least_cut_parts, .func (PySem.W.fnOf "least_cut_parts" "least_cut_parts" (defArgs s_least_cut_parts) (defBody s_least_cut_parts) (defScope s_least_cut_parts) .none kV_least_cut_parts dc_least_cut_parts pm_least_cut_parts an_least_cut_parts cd_least_cut_parts ct_least_cut_parts), sl_least_cut_parts⟩) (c_least_cut_parts : PySem.W.codeIn K cd_least_cut_parts "least_cut_parts" = true) (k_least_cut_parts : PySem.W.keepIn K (.ref f_least_cut_parts) = true)
    (a_rest_row : PySem.W.nsIn K mainGlobals "rest_row" = some (some (.ref f_rest_row))) (l_rest_row : K.lookup f_rest_row = some ⟨oc_rest_row, od_rest_row, .func (PySem.W.fnOf "rest_row" "rest_row" (defArgs s_rest_row) (defBody s_rest_row) (defScope s_rest_row) .none kV_rest_row dc_rest_row pm_rest_row an_rest_row cd_rest_row ct_rest_row), sl_rest_row⟩) (c_rest_row : PySem.W.codeIn K cd_rest_row "rest_row" = true) (k_rest_row : PySem.W.keepIn K (.ref f_rest_row) = true)
    (a_cut_near_paper : PySem.W.nsIn K mainGlobals "cut_near_paper" = some (some (.ref f_cut_near_paper))) (l_cut_near_paper : K.lookup f_cut_near_paper = some ⟨oc_cut_near_paper, od_cut_near_paper, .func (PySem.W.fnOf "cut_near_paper" "cut_near_paper" (defArgs s_cut_near_paper) (defBody s_cut_near_paper) (defScope s_cut_near_paper) .none kV_cut_near_paper dc_cut_near_paper pm_cut_near_paper an_cut_near_paper cd_cut_near_paper ct_cut_near_paper), sl_cut_near_paper⟩) (c_cut_near_paper : PySem.W.codeIn K cd_cut_near_paper "cut_near_paper" = true) (k_cut_near_paper : PySem.W.keepIn K (.ref f_cut_near_paper) = true)
    (a_nearest_cut_row : PySem.W.nsIn K mainGlobals "nearest_cut_row" = some (some (.ref f_nearest_cut_row))) (l_nearest_cut_row : K.lookup f_nearest_cut_row = some ⟨oc_nearest_cut_row, od_nearest_cut_row, .func (PySem.W.fnOf "nearest_cut_row" "nearest_cut_row" (defArgs s_nearest_cut_row) (defBody s_nearest_cut_row) (defScope s_nearest_cut_row) .none kV_nearest_cut_row dc_nearest_cut_row pm_nearest_cut_row an_nearest_cut_row cd_nearest_cut_row ct_nearest_cut_row), sl_nearest_cut_row⟩) (c_nearest_cut_row : PySem.W.codeIn K cd_nearest_cut_row "nearest_cut_row" = true) (k_nearest_cut_row : PySem.W.keepIn K (.ref f_nearest_cut_row) = true)
    (a_nearest_cut_rows : PySem.W.nsIn K mainGlobals "nearest_cut_rows" = some (some (.ref f_nearest_cut_rows))) (l_nearest_cut_rows : K.lookup f_nearest_cut_rows = some ⟨oc_nearest_cut_rows, od_nearest_cut_rows, .func (PySem.W.fnOf "nearest_cut_rows" "nearest_cut_rows" (defArgs s_nearest_cut_rows) (defBody s_nearest_cut_rows) (defScope s_nearest_cut_rows) .none kV_nearest_cut_rows dc_nearest_cut_rows pm_nearest_cut_rows an_nearest_cut_rows cd_nearest_cut_rows ct_nearest_cut_rows), sl_nearest_cut_rows⟩) (c_nearest_cut_rows : PySem.W.codeIn K cd_nearest_cut_rows "nearest_cut_rows" = true) (k_nearest_cut_rows : PySem.W.keepIn K (.ref f_nearest_cut_rows) = true)
    (a_alike_by_cuts : PySem.W.nsIn K mainGlobals "alike_by_cuts" = some (some (.ref f_alike_by_cuts))) (l_alike_by_cuts : K.lookup f_alike_by_cuts = some ⟨oc_alike_by_cuts, od_alike_by_cuts, .func (PySem.W.fnOf "alike_by_cuts" "alike_by_cuts" (defArgs s_alike_by_cuts) (defBody s_alike_by_cuts) (defScope s_alike_by_cuts) .none kV_alike_by_cuts dc_alike_by_cuts pm_alike_by_cuts an_alike_by_cuts cd_alike_by_cuts ct_alike_by_cuts), sl_alike_by_cuts⟩) (c_alike_by_cuts : PySem.W.codeIn K cd_alike_by_cuts "alike_by_cuts" = true) (k_alike_by_cuts : PySem.W.keepIn K (.ref f_alike_by_cuts) = true)
    (a_row_product : PySem.W.nsIn K mainGlobals "row_product" = some (some (.ref f_row_product))) (l_row_product : K.lookup f_row_product = some ⟨oc_row_product, od_row_product, .func (PySem.W.fnOf "row_product" "row_product" (defArgs s_row_product) (defBody s_row_product) (defScope s_row_product) .none kV_row_product dc_row_product pm_row_product an_row_product cd_row_product ct_row_product), sl_row_product⟩) (c_row_product : PySem.W.codeIn K cd_row_product "row_product" = true) (k_row_product : PySem.W.keepIn K (.ref f_row_product) = true)
    (a_turned_row : PySem.W.nsIn K mainGlobals "turned_row" = some (some (.ref f_turned_row))) (l_turned_row : K.lookup f_turned_row = some ⟨oc_turned_row, od_turned_row, .func (PySem.W.fnOf "turned_row" "turned_row" (defArgs s_turned_row) (defBody s_turned_row) (defScope s_turned_row) .none kV_turned_row dc_turned_row pm_turned_row an_turned_row cd_turned_row ct_turned_row), sl_turned_row⟩) (c_turned_row : PySem.W.codeIn K cd_turned_row "turned_row" = true) (k_turned_row : PySem.W.keepIn K (.ref f_turned_row) = true)
    (a_steps_on : PySem.W.nsIn K mainGlobals "steps_on" = some (some (.ref f_steps_on))) (l_steps_on : K.lookup f_steps_on = some ⟨oc_steps_on, od_steps_on, .func (PySem.W.fnOf "steps_on" "steps_on" (defArgs s_steps_on) (defBody s_steps_on) (defScope s_steps_on) .none kV_steps_on dc_steps_on pm_steps_on an_steps_on cd_steps_on ct_steps_on), sl_steps_on⟩) (c_steps_on : PySem.W.codeIn K cd_steps_on "steps_on" = true) (k_steps_on : PySem.W.keepIn K (.ref f_steps_on) = true)
    (a_rings_from : PySem.W.nsIn K mainGlobals "rings_from" = some (some (.ref f_rings_from))) (l_rings_from : K.lookup f_rings_from = some ⟨oc_rings_from, od_rings_from, .func (PySem.W.fnOf "rings_from" "rings_from" (defArgs s_rings_from) (defBody s_rings_from) (defScope s_rings_from) .none kV_rings_from dc_rings_from pm_rings_from an_rings_from cd_rings_from ct_rings_from), sl_rings_from⟩) (c_rings_from : PySem.W.codeIn K cd_rings_from "rings_from" = true) (k_rings_from : PySem.W.keepIn K (.ref f_rings_from) = true)
    (a_simple_ring_rows : PySem.W.nsIn K mainGlobals "simple_ring_rows" = some (some (.ref f_simple_ring_rows))) (l_simple_ring_rows : K.lookup f_simple_ring_rows = some ⟨oc_simple_ring_rows, od_simple_ring_rows, .func (PySem.W.fnOf "simple_ring_rows" "simple_ring_rows" (defArgs s_simple_ring_rows) (defBody s_simple_ring_rows) (defScope s_simple_ring_rows) .none kV_simple_ring_rows dc_simple_ring_rows pm_simple_ring_rows an_simple_ring_rows cd_simple_ring_rows ct_simple_ring_rows), sl_simple_ring_rows⟩) (c_simple_ring_rows : PySem.W.codeIn K cd_simple_ring_rows "simple_ring_rows" = true) (k_simple_ring_rows : PySem.W.keepIn K (.ref f_simple_ring_rows) = true)
    (a__law_source : PySem.W.nsIn K mainGlobals "_law_source" = some (some (.ref f__law_source))) (l__law_source : K.lookup f__law_source = some ⟨oc__law_source, od__law_source, .func (PySem.W.fnOf "_law_source" "_law_source" (defArgs s__law_source) (defBody s__law_source) (defScope s__law_source) .none kV__law_source dc__law_source pm__law_source an__law_source cd__law_source ct__law_source), sl__law_source⟩) (c__law_source : PySem.W.codeIn K cd__law_source "_law_source" = true) (k__law_source : PySem.W.keepIn K (.ref f__law_source) = true)
    (a__law_pick : PySem.W.nsIn K mainGlobals "_law_pick" = some (some (.ref f__law_pick))) (l__law_pick : K.lookup f__law_pick = some ⟨oc__law_pick, od__law_pick, .func (PySem.W.fnOf "_law_pick" "_law_pick" (defArgs s__law_pick) (defBody s__law_pick) (defScope s__law_pick) .none kV__law_pick dc__law_pick pm__law_pick an__law_pick cd__law_pick ct__law_pick), sl__law_pick⟩) (c__law_pick : PySem.W.codeIn K cd__law_pick "_law_pick" = true) (k__law_pick : PySem.W.keepIn K (.ref f__law_pick) = true)
    (a__law_of : PySem.W.nsIn K mainGlobals "_law_of" = some (some (.ref f__law_of))) (l__law_of : K.lookup f__law_of = some ⟨oc__law_of, od__law_of, .func (PySem.W.fnOf "_law_of" "_law_of" (defArgs s__law_of) (defBody s__law_of) (defScope s__law_of) .none kV__law_of dc__law_of pm__law_of an__law_of cd__law_of ct__law_of), sl__law_of⟩) (c__law_of : PySem.W.codeIn K cd__law_of "_law_of" = true) (k__law_of : PySem.W.keepIn K (.ref f__law_of) = true)
    (a__law_mixed : PySem.W.nsIn K mainGlobals "_law_mixed" = some (some (.ref f__law_mixed))) (l__law_mixed : K.lookup f__law_mixed = some ⟨oc__law_mixed, od__law_mixed, .func (PySem.W.fnOf "_law_mixed" "_law_mixed" (defArgs s__law_mixed) (defBody s__law_mixed) (defScope s__law_mixed) .none kV__law_mixed dc__law_mixed pm__law_mixed an__law_mixed cd__law_mixed ct__law_mixed), sl__law_mixed⟩) (c__law_mixed : PySem.W.codeIn K cd__law_mixed "_law_mixed" = true) (k__law_mixed : PySem.W.keepIn K (.ref f__law_mixed) = true)
    (a__law_hung : PySem.W.nsIn K mainGlobals "_law_hung" = some (some (.ref f__law_hung))) (l__law_hung : K.lookup f__law_hung = some ⟨oc__law_hung, od__law_hung, .func (PySem.W.fnOf "_law_hung" "_law_hung" (defArgs s__law_hung) (defBody s__law_hung) (defScope s__law_hung) .none kV__law_hung dc__law_hung pm__law_hung an__law_hung cd__law_hung ct__law_hung), sl__law_hung⟩) (c__law_hung : PySem.W.codeIn K cd__law_hung "_law_hung" = true) (k__law_hung : PySem.W.keepIn K (.ref f__law_hung) = true)
    (a__law_rising : PySem.W.nsIn K mainGlobals "_law_rising" = some (some (.ref f__law_rising))) (l__law_rising : K.lookup f__law_rising = some ⟨oc__law_rising, od__law_rising, .func (PySem.W.fnOf "_law_rising" "_law_rising" (defArgs s__law_rising) (defBody s__law_rising) (defScope s__law_rising) .none kV__law_rising dc__law_rising pm__law_rising an__law_rising cd__law_rising ct__law_rising), sl__law_rising⟩) (c__law_rising : PySem.W.codeIn K cd__law_rising "_law_rising" = true) (k__law_rising : PySem.W.keepIn K (.ref f__law_rising) = true)
    (a__law_heights : PySem.W.nsIn K mainGlobals "_law_heights" = some (some (.ref f__law_heights))) (l__law_heights : K.lookup f__law_heights = some ⟨oc__law_heights, od__law_heights, .func (PySem.W.fnOf "_law_heights" "_law_heights" (defArgs s__law_heights) (defBody s__law_heights) (defScope s__law_heights) .none kV__law_heights dc__law_heights pm__law_heights an__law_heights cd__law_heights ct__law_heights), sl__law_heights⟩) (c__law_heights : PySem.W.codeIn K cd__law_heights "_law_heights" = true) (k__law_heights : PySem.W.keepIn K (.ref f__law_heights) = true)
    (a__law_all_turnings : PySem.W.nsIn K mainGlobals "_law_all_turnings" = some (some (.ref f__law_all_turnings))) (l__law_all_turnings : K.lookup f__law_all_turnings = some ⟨oc__law_all_turnings, od__law_all_turnings, .func (PySem.W.fnOf "_law_all_turnings" "_law_all_turnings" (defArgs s__law_all_turnings) (defBody s__law_all_turnings) (defScope s__law_all_turnings) .none kV__law_all_turnings dc__law_all_turnings pm__law_all_turnings an__law_all_turnings cd__law_all_turnings ct__law_all_turnings), sl__law_all_turnings⟩) (c__law_all_turnings : PySem.W.codeIn K cd__law_all_turnings "_law_all_turnings" = true) (k__law_all_turnings : PySem.W.keepIn K (.ref f__law_all_turnings) = true)
    (a__law_signs_of : PySem.W.nsIn K mainGlobals "_law_signs_of" = some (some (.ref f__law_signs_of))) (l__law_signs_of : K.lookup f__law_signs_of = some ⟨oc__law_signs_of, od__law_signs_of, .func (PySem.W.fnOf "_law_signs_of" "_law_signs_of" (defArgs s__law_signs_of) (defBody s__law_signs_of) (defScope s__law_signs_of) .none kV__law_signs_of dc__law_signs_of pm__law_signs_of an__law_signs_of cd__law_signs_of ct__law_signs_of), sl__law_signs_of⟩) (c__law_signs_of : PySem.W.codeIn K cd__law_signs_of "_law_signs_of" = true) (k__law_signs_of : PySem.W.keepIn K (.ref f__law_signs_of) = true)
    (a_law : PySem.W.nsIn K mainGlobals "law" = some (some (.ref f_law))) (l_law : K.lookup f_law = some ⟨oc_law, od_law, .func (PySem.W.fnOf "law" "law" (defArgs s_law) (defBody s_law) (defScope s_law) .none kV_law dc_law pm_law an_law cd_law ct_law), sl_law⟩) (c_law : PySem.W.codeIn K cd_law "law" = true) (k_law : PySem.W.keepIn K (.ref f_law) = true)
    (z_abs : PySem.W.nsIn K mainGlobals "abs" = some none)
    (z_dict : PySem.W.nsIn K mainGlobals "dict" = some none)
    (z_enumerate : PySem.W.nsIn K mainGlobals "enumerate" = some none)
    (z_int : PySem.W.nsIn K mainGlobals "int" = some none)
    (z_len : PySem.W.nsIn K mainGlobals "len" = some none)
    (z_list : PySem.W.nsIn K mainGlobals "list" = some none)
    (z_max : PySem.W.nsIn K mainGlobals "max" = some none)
    (z_min : PySem.W.nsIn K mainGlobals "min" = some none)
    (z_range : PySem.W.nsIn K mainGlobals "range" = some none)
    (z_repr : PySem.W.nsIn K mainGlobals "repr" = some none)
    (z_sorted : PySem.W.nsIn K mainGlobals "sorted" = some none)
    (z_sum : PySem.W.nsIn K mainGlobals "sum" = some none)
    (z_tuple : PySem.W.nsIn K mainGlobals "tuple" = some none)
    (z_zip : PySem.W.nsIn K mainGlobals "zip" = some none)
    {t_MOST_ROWS_nearcuts : Tok} (y_MOST_ROWS_nearcuts : PySem.W.nsIn K mainGlobals "MOST_ROWS_nearcuts" = some (some (.int 2000 t_MOST_ROWS_nearcuts)))
    {t_MOST_ROWS_simplerows : Tok} (y_MOST_ROWS_simplerows : PySem.W.nsIn K mainGlobals "MOST_ROWS_simplerows" = some (some (.int 2000 t_MOST_ROWS_simplerows)))
    : ∃ fd : FuncData, (∀ (s : Shared) (v : Value), BindsTo s fd ⟨[v], []⟩ [("script", v)]) ∧ ∀ base : Heap, K.In base → base.Ns mainGlobals mg → FnG P w K mg base 7 fa fd ["script"] (spLawG K) := by
  have e := hfa.symm.trans (PySem.W.mg_of X G a_law)
  cases e
  have F_heads_by := fun_mk (st := s_heads_by) l_heads_by c_heads_by k_heads_by
  have F_pieces_by := fun_mk (st := s_pieces_by) l_pieces_by c_pieces_by k_pieces_by
  have F_piece_count := fun_mk (st := s_piece_count) l_piece_count c_piece_count k_piece_count
  have F_row_of_lot := fun_mk (st := s_row_of_lot) l_row_of_lot c_row_of_lot k_row_of_lot
  have F_is_one_way_cut := fun_mk (st := s_is_one_way_cut) l_is_one_way_cut c_is_one_way_cut k_is_one_way_cut
  have F_all_crossing_lots := fun_mk (st := s_all_crossing_lots) l_all_crossing_lots c_all_crossing_lots k_all_crossing_lots
  have F_hangs_within := fun_mk (st := s_hangs_within) l_hangs_within c_hangs_within k_hangs_within
  have F_least_cut_parts := fun_mk (st := s_least_cut_parts) l_least_cut_parts c_least_cut_parts k_least_cut_parts
  have F_rest_row := fun_mk (st := s_rest_row) l_rest_row c_rest_row k_rest_row
  have F_cut_near_paper := fun_mk (st := s_cut_near_paper) l_cut_near_paper c_cut_near_paper k_cut_near_paper
  have F_nearest_cut_row := fun_mk (st := s_nearest_cut_row) l_nearest_cut_row c_nearest_cut_row k_nearest_cut_row
  have F_nearest_cut_rows := fun_mk (st := s_nearest_cut_rows) l_nearest_cut_rows c_nearest_cut_rows k_nearest_cut_rows
  have F_alike_by_cuts := fun_mk (st := s_alike_by_cuts) l_alike_by_cuts c_alike_by_cuts k_alike_by_cuts
  have F_row_product := fun_mk (st := s_row_product) l_row_product c_row_product k_row_product
  have F_turned_row := fun_mk (st := s_turned_row) l_turned_row c_turned_row k_turned_row
  have F_steps_on := fun_mk (st := s_steps_on) l_steps_on c_steps_on k_steps_on
  have F_rings_from := fun_mk (st := s_rings_from) l_rings_from c_rings_from k_rings_from
  have F_simple_ring_rows := fun_mk (st := s_simple_ring_rows) l_simple_ring_rows c_simple_ring_rows k_simple_ring_rows
  have F__law_source := fun_mk (st := s__law_source) l__law_source c__law_source k__law_source
  have F__law_pick := fun_mk (st := s__law_pick) l__law_pick c__law_pick k__law_pick
  have F__law_of := fun_mk (st := s__law_of) l__law_of c__law_of k__law_of
  have F__law_mixed := fun_mk (st := s__law_mixed) l__law_mixed c__law_mixed k__law_mixed
  have F__law_hung := fun_mk (st := s__law_hung) l__law_hung c__law_hung k__law_hung
  have F__law_rising := fun_mk (st := s__law_rising) l__law_rising c__law_rising k__law_rising
  have F__law_heights := fun_mk (st := s__law_heights) l__law_heights c__law_heights k__law_heights
  have F__law_all_turnings := fun_mk (st := s__law_all_turnings) l__law_all_turnings c__law_all_turnings k__law_all_turnings
  have F__law_signs_of := fun_mk (st := s__law_signs_of) l__law_signs_of c__law_signs_of k__law_signs_of
  have F_law := fun_mk (st := s_law) l_law c_law k_law
  have b_heads_by := F_heads_by.binds (ps := ["frame", "lot"]) fun _ _ _ _ _ _ us hl => match us, hl with | [_, _], _ => rfl
  have b_pieces_by := F_pieces_by.binds (ps := ["frame", "lot"]) fun _ _ _ _ _ _ us hl => match us, hl with | [_, _], _ => rfl
  have b_piece_count := F_piece_count.binds (ps := ["frame", "lot"]) fun _ _ _ _ _ _ us hl => match us, hl with | [_, _], _ => rfl
  have b_row_of_lot := F_row_of_lot.binds (ps := ["net", "lot"]) fun _ _ _ _ _ _ us hl => match us, hl with | [_, _], _ => rfl
  have b_is_one_way_cut := F_is_one_way_cut.binds (ps := ["net", "marks", "lot"]) fun _ _ _ _ _ _ us hl => match us, hl with | [_, _, _], _ => rfl
  have b_all_crossing_lots := F_all_crossing_lots.binds (ps := ["n"]) fun _ _ _ _ _ _ us hl => match us, hl with | [_], _ => rfl
  have b_hangs_within := F_hangs_within.binds (ps := ["net", "lot"]) fun _ _ _ _ _ _ us hl => match us, hl with | [_, _], _ => rfl
  have b_least_cut_parts := F_least_cut_parts.binds (ps := ["net"]) fun _ _ _ _ _ _ us hl => match us, hl with | [_], _ => rfl
  have b_rest_row := F_rest_row.binds (ps := ["y", "f"]) fun _ _ _ _ _ _ us hl => match us, hl with | [_, _], _ => rfl
  have b_cut_near_paper := F_cut_near_paper.binds (ps := ["net", "y", "k"]) fun _ _ _ _ _ _ us hl => match us, hl with | [_, _, _], _ => rfl
  have b_nearest_cut_row := F_nearest_cut_row.binds (ps := ["net", "y"]) fun _ _ _ _ _ _ us hl => match us, hl with | [_, _], _ => rfl
  have b_nearest_cut_rows := F_nearest_cut_rows.binds (ps := ["net", "y"]) fun _ _ _ _ _ _ us hl => match us, hl with | [_, _], _ => rfl
  have b_alike_by_cuts := F_alike_by_cuts.binds (ps := ["net", "turning"]) fun _ _ _ _ _ _ us hl => match us, hl with | [_, _], _ => rfl
  have b_row_product := F_row_product.binds (ps := ["one", "other"]) fun _ _ _ _ _ _ us hl => match us, hl with | [_, _], _ => rfl
  have b_turned_row := F_turned_row.binds (ps := ["row"]) fun _ _ _ _ _ _ us hl => match us, hl with | [_], _ => rfl
  have b_steps_on := F_steps_on.binds (ps := ["frame", "crossing"]) fun _ _ _ _ _ _ us hl => match us, hl with | [_, _], _ => rfl
  have b_rings_from := F_rings_from.binds (ps := ["frame", "first"]) fun _ _ _ _ _ _ us hl => match us, hl with | [_, _], _ => rfl
  have b_simple_ring_rows := F_simple_ring_rows.binds (ps := ["frame"]) fun _ _ _ _ _ _ us hl => match us, hl with | [_], _ => rfl
  have b__law_source := F__law_source.binds (ps := ["script"]) fun _ _ _ _ _ _ us hl => match us, hl with | [_], _ => rfl
  have b__law_pick := F__law_pick.binds (ps := ["source", "many"]) fun _ _ _ _ _ _ us hl => match us, hl with | [_, _], _ => rfl
  have b__law_of := F__law_of.binds (ps := ["source", "some"]) fun _ _ _ _ _ _ us hl => match us, hl with | [_, _], _ => rfl
  have b__law_mixed := F__law_mixed.binds (ps := ["source", "things"]) fun _ _ _ _ _ _ us hl => match us, hl with | [_, _], _ => rfl
  have b__law_hung := F__law_hung.binds (ps := ["source", "crossings", "roads"]) fun _ _ _ _ _ _ us hl => match us, hl with | [_, _, _], _ => rfl
  have b__law_rising := F__law_rising.binds (ps := ["frame", "heights"]) fun _ _ _ _ _ _ us hl => match us, hl with | [_, _], _ => rfl
  have b__law_heights := F__law_heights.binds (ps := ["frame", "row"]) fun _ _ _ _ _ _ us hl => match us, hl with | [_, _], _ => rfl
  have b__law_all_turnings := F__law_all_turnings.binds (ps := ["m"]) fun _ _ _ _ _ _ us hl => match us, hl with | [_], _ => rfl
  have b__law_signs_of := F__law_signs_of.binds (ps := ["turning"]) fun _ _ _ _ _ _ us hl => match us, hl with | [_], _ => rfl
  have M : Ms K mg := ⟨f_heads_by, _, F_heads_by, PySem.W.mg_of X G a_heads_by, b_heads_by,
    f_pieces_by, _, F_pieces_by, PySem.W.mg_of X G a_pieces_by, b_pieces_by,
    f_piece_count, _, F_piece_count, PySem.W.mg_of X G a_piece_count, b_piece_count,
    f_row_of_lot, _, F_row_of_lot, PySem.W.mg_of X G a_row_of_lot, b_row_of_lot,
    f_is_one_way_cut, _, F_is_one_way_cut, PySem.W.mg_of X G a_is_one_way_cut, b_is_one_way_cut,
    f_all_crossing_lots, _, F_all_crossing_lots, PySem.W.mg_of X G a_all_crossing_lots, b_all_crossing_lots,
    f_hangs_within, _, F_hangs_within, PySem.W.mg_of X G a_hangs_within, b_hangs_within,
    f_least_cut_parts, _, F_least_cut_parts, PySem.W.mg_of X G a_least_cut_parts, b_least_cut_parts,
    f_rest_row, _, F_rest_row, PySem.W.mg_of X G a_rest_row, b_rest_row,
    f_cut_near_paper, _, F_cut_near_paper, PySem.W.mg_of X G a_cut_near_paper, b_cut_near_paper,
    f_nearest_cut_row, _, F_nearest_cut_row, PySem.W.mg_of X G a_nearest_cut_row, b_nearest_cut_row,
    f_nearest_cut_rows, _, F_nearest_cut_rows, PySem.W.mg_of X G a_nearest_cut_rows, b_nearest_cut_rows,
    f_alike_by_cuts, _, F_alike_by_cuts, PySem.W.mg_of X G a_alike_by_cuts, b_alike_by_cuts,
    f_row_product, _, F_row_product, PySem.W.mg_of X G a_row_product, b_row_product,
    f_turned_row, _, F_turned_row, PySem.W.mg_of X G a_turned_row, b_turned_row,
    f_steps_on, _, F_steps_on, PySem.W.mg_of X G a_steps_on, b_steps_on,
    f_rings_from, _, F_rings_from, PySem.W.mg_of X G a_rings_from, b_rings_from,
    f_simple_ring_rows, _, F_simple_ring_rows, PySem.W.mg_of X G a_simple_ring_rows, b_simple_ring_rows,
    f__law_source, _, F__law_source, PySem.W.mg_of X G a__law_source, b__law_source,
    f__law_pick, _, F__law_pick, PySem.W.mg_of X G a__law_pick, b__law_pick,
    f__law_of, _, F__law_of, PySem.W.mg_of X G a__law_of, b__law_of,
    f__law_mixed, _, F__law_mixed, PySem.W.mg_of X G a__law_mixed, b__law_mixed,
    f__law_hung, _, F__law_hung, PySem.W.mg_of X G a__law_hung, b__law_hung,
    f__law_rising, _, F__law_rising, PySem.W.mg_of X G a__law_rising, b__law_rising,
    f__law_heights, _, F__law_heights, PySem.W.mg_of X G a__law_heights, b__law_heights,
    f__law_all_turnings, _, F__law_all_turnings, PySem.W.mg_of X G a__law_all_turnings, b__law_all_turnings,
    f__law_signs_of, _, F__law_signs_of, PySem.W.mg_of X G a__law_signs_of, b__law_signs_of,
    PySem.W.mg_none_of X G z_abs,
    PySem.W.mg_none_of X G z_dict,
    PySem.W.mg_none_of X G z_enumerate,
    PySem.W.mg_none_of X G z_int,
    PySem.W.mg_none_of X G z_len,
    PySem.W.mg_none_of X G z_list,
    PySem.W.mg_none_of X G z_max,
    PySem.W.mg_none_of X G z_min,
    PySem.W.mg_none_of X G z_range,
    PySem.W.mg_none_of X G z_repr,
    PySem.W.mg_none_of X G z_sorted,
    PySem.W.mg_none_of X G z_sum,
    PySem.W.mg_none_of X G z_tuple,
    PySem.W.mg_none_of X G z_zip,
    ⟨_, PySem.W.mg_of X G y_MOST_ROWS_nearcuts⟩,
    ⟨_, PySem.W.mg_of X G y_MOST_ROWS_simplerows⟩⟩
  exact ⟨_, fun s v => .of_eq rfl, fun base _ _ => ok_law ht M F_law⟩
end VL

open PySem PySem.W PyProof.Rows
set_option maxHeartbeats 0 in
theorem PySem.Challenge.cw_flowlattices_k57_whole_turnings_alike_by_holds : PySem.Challenge.rw_flowlattices_k57_whole_turnings_alike_by.Holds := by
  w_on; o_law; k_head; (case hw => w_witness2)
  k_fill
  refine VL.walk_ofG (l := PySem.Challenge.rw_flowlattices_k57_whole_turnings_alike_by) (n := 63) (k := 7) (x := "script") rfl (by decide) rfl ⟨⟨rfl, by decide, by decide⟩, rfl⟩ (fun w h Y => PySem.W.kIn_of Y) ?F
  case F =>
    intro w mg fa h KX G hmg
    refine' VL.all_mk VL.lawTrue KX G hmg ?a_heads_by ?l_heads_by ?c_heads_by ?k_heads_by ?a_pieces_by ?l_pieces_by ?c_pieces_by ?k_pieces_by ?a_piece_count ?l_piece_count ?c_piece_count ?k_piece_count ?a_row_of_lot ?l_row_of_lot ?c_row_of_lot ?k_row_of_lot ?a_is_one_way_cut ?l_is_one_way_cut ?c_is_one_way_cut ?k_is_one_way_cut ?a_all_crossing_lots ?l_all_crossing_lots ?c_all_crossing_lots ?k_all_crossing_lots ?a_hangs_within ?l_hangs_within ?c_hangs_within ?k_hangs_within ?a_least_cut_parts ?l_least_cut_parts ?c_least_cut_parts ?k_least_cut_parts ?a_rest_row ?l_rest_row ?c_rest_row ?k_rest_row ?a_cut_near_paper ?l_cut_near_paper ?c_cut_near_paper ?k_cut_near_paper ?a_nearest_cut_row ?l_nearest_cut_row ?c_nearest_cut_row ?k_nearest_cut_row ?a_nearest_cut_rows ?l_nearest_cut_rows ?c_nearest_cut_rows ?k_nearest_cut_rows ?a_alike_by_cuts ?l_alike_by_cuts ?c_alike_by_cuts ?k_alike_by_cuts ?a_row_product ?l_row_product ?c_row_product ?k_row_product ?a_turned_row ?l_turned_row ?c_turned_row ?k_turned_row ?a_steps_on ?l_steps_on ?c_steps_on ?k_steps_on ?a_rings_from ?l_rings_from ?c_rings_from ?k_rings_from ?a_simple_ring_rows ?l_simple_ring_rows ?c_simple_ring_rows ?k_simple_ring_rows ?a__law_source ?l__law_source ?c__law_source ?k__law_source ?a__law_pick ?l__law_pick ?c__law_pick ?k__law_pick ?a__law_of ?l__law_of ?c__law_of ?k__law_of ?a__law_mixed ?l__law_mixed ?c__law_mixed ?k__law_mixed ?a__law_hung ?l__law_hung ?c__law_hung ?k__law_hung ?a__law_rising ?l__law_rising ?c__law_rising ?k__law_rising ?a__law_heights ?l__law_heights ?c__law_heights ?k__law_heights ?a__law_all_turnings ?l__law_all_turnings ?c__law_all_turnings ?k__law_all_turnings ?a__law_signs_of ?l__law_signs_of ?c__law_signs_of ?k__law_signs_of ?a_law ?l_law ?c_law ?k_law ?z_abs ?z_dict ?z_enumerate ?z_int ?z_len ?z_list ?z_max ?z_min ?z_range ?z_repr ?z_sorted ?z_sum ?z_tuple ?z_zip ?y_MOST_ROWS_nearcuts ?y_MOST_ROWS_simplerows
    (case a_heads_by => k_is); (case l_heads_by => k_is); (case c_heads_by => k_is); (case k_heads_by => k_is); (case a_pieces_by => k_is); (case l_pieces_by => k_is); (case c_pieces_by => k_is); (case k_pieces_by => k_is); (case a_piece_count => k_is); (case l_piece_count => k_is); (case c_piece_count => k_is); (case k_piece_count => k_is); (case a_row_of_lot => k_is); (case l_row_of_lot => k_is); (case c_row_of_lot => k_is); (case k_row_of_lot => k_is); (case a_is_one_way_cut => k_is); (case l_is_one_way_cut => k_is); (case c_is_one_way_cut => k_is); (case k_is_one_way_cut => k_is); (case a_all_crossing_lots => k_is); (case l_all_crossing_lots => k_is); (case c_all_crossing_lots => k_is); (case k_all_crossing_lots => k_is); (case a_hangs_within => k_is); (case l_hangs_within => k_is); (case c_hangs_within => k_is); (case k_hangs_within => k_is); (case a_least_cut_parts => k_is); (case l_least_cut_parts => k_is); (case c_least_cut_parts => k_is); (case k_least_cut_parts => k_is); (case a_rest_row => k_is); (case l_rest_row => k_is); (case c_rest_row => k_is); (case k_rest_row => k_is); (case a_cut_near_paper => k_is); (case l_cut_near_paper => k_is); (case c_cut_near_paper => k_is); (case k_cut_near_paper => k_is); (case a_nearest_cut_row => k_is); (case l_nearest_cut_row => k_is); (case c_nearest_cut_row => k_is); (case k_nearest_cut_row => k_is); (case a_nearest_cut_rows => k_is); (case l_nearest_cut_rows => k_is); (case c_nearest_cut_rows => k_is); (case k_nearest_cut_rows => k_is); (case a_alike_by_cuts => k_is); (case l_alike_by_cuts => k_is); (case c_alike_by_cuts => k_is); (case k_alike_by_cuts => k_is); (case a_row_product => k_is); (case l_row_product => k_is); (case c_row_product => k_is); (case k_row_product => k_is); (case a_turned_row => k_is); (case l_turned_row => k_is); (case c_turned_row => k_is); (case k_turned_row => k_is); (case a_steps_on => k_is); (case l_steps_on => k_is); (case c_steps_on => k_is); (case k_steps_on => k_is); (case a_rings_from => k_is); (case l_rings_from => k_is); (case c_rings_from => k_is); (case k_rings_from => k_is); (case a_simple_ring_rows => k_is); (case l_simple_ring_rows => k_is); (case c_simple_ring_rows => k_is); (case k_simple_ring_rows => k_is); (case a__law_source => k_is); (case l__law_source => k_is); (case c__law_source => k_is); (case k__law_source => k_is); (case a__law_pick => k_is); (case l__law_pick => k_is); (case c__law_pick => k_is); (case k__law_pick => k_is); (case a__law_of => k_is); (case l__law_of => k_is); (case c__law_of => k_is); (case k__law_of => k_is); (case a__law_mixed => k_is); (case l__law_mixed => k_is); (case c__law_mixed => k_is); (case k__law_mixed => k_is); (case a__law_hung => k_is); (case l__law_hung => k_is); (case c__law_hung => k_is); (case k__law_hung => k_is); (case a__law_rising => k_is); (case l__law_rising => k_is); (case c__law_rising => k_is); (case k__law_rising => k_is); (case a__law_heights => k_is); (case l__law_heights => k_is); (case c__law_heights => k_is); (case k__law_heights => k_is); (case a__law_all_turnings => k_is); (case l__law_all_turnings => k_is); (case c__law_all_turnings => k_is); (case k__law_all_turnings => k_is); (case a__law_signs_of => k_is); (case l__law_signs_of => k_is); (case c__law_signs_of => k_is); (case k__law_signs_of => k_is); (case a_law => k_is); (case l_law => k_is); (case c_law => k_is); (case k_law => k_is); (case z_abs => k_is); (case z_dict => k_is); (case z_enumerate => k_is); (case z_int => k_is); (case z_len => k_is); (case z_list => k_is); (case z_max => k_is); (case z_min => k_is); (case z_range => k_is); (case z_repr => k_is); (case z_sorted => k_is); (case z_sum => k_is); (case z_tuple => k_is); (case z_zip => k_is); (case y_MOST_ROWS_nearcuts => k_is); (case y_MOST_ROWS_simplerows => k_is)

