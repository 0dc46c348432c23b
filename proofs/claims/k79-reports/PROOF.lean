import PyProof.Rows.All
import Wide.All
import OpenK.AllK
import Wide.FinOn
import HandS.ForMost
import HandS.ForExc
import HandS.Walk
import HandS.IsInst
import HandS.TupAny
import HandS.Wide
import HandS.Flow
import HandS.Comp
import HandS.Iter
import PyProof.P3Eq
import HandS.Dict
import HandS.TupMul
import KE.GoesMore
import PyProof.EnumMake
import PySem.Challenge.RW_whyandwhynot_k79_reports_and_what_they_s
set_option Elab.async false
set_option linter.all false
set_option maxRecDepth 100000
set_option maxHeartbeats 4000000
/-! DS1: plain data over the abstract heap; judgements whose meaning speaks of plain data alone. -/
namespace DS
open PySem PySem.Spec PyProof.Rows L2

/-- plain data -/
inductive D where
  | non | bl (b : Bool) | int (i : Int) | str (x : Str) | tup (ds : List D) | lst (ds : List D) | dic (ks : List Key) (vs : List D) | ref (a : Addr) | ty (n : String) | st

/-- which objects may be changed (O), the dict of the source of draws, its list of great numbers -/
structure Co where
  O : Addr → Prop
  sd : Addr
  sg : Addr
  sl : Addr

def KL (K : PySem.W.Frag) (a : Addr) (xs : List V) : Prop :=
  ∃ (o : Obj) (its : Array Value) (n : Nat), K.lookup a = some o ∧ o.cls = .type "list" ∧ o.dict = none ∧ o.data = .seq its n ∧ its.size ≤ sizeLine ∧ Vals xs its.toList
def KT (K : PySem.W.Frag) (a : Addr) (xs : List V) : Prop :=
  ∃ (o : Obj) (its : Array Value) (n : Nat), K.lookup a = some o ∧ o.cls = .type "tuple" ∧ o.data = .seq its n ∧ its.size ≤ sizeLine ∧ Vals xs its.toList
def NL (K : PySem.W.Frag) (c : Co) (H : Hp) (a : Addr) (xs : List V) : Prop := (Rd H a (.lst xs) ∧ ¬ c.O a) ∨ KL K a xs
def NT (K : PySem.W.Frag) (c : Co) (H : Hp) (a : Addr) (xs : List V) : Prop := (Rd H a (.tup xs) ∧ ¬ c.O a) ∨ KT K a xs
theorem NL.sq {K c H a xs} (h : NL K c H a xs) : SqL K H a xs := h.elim (fun h => .inl h.1) .inr
theorem NT.sq {K c H a xs} (h : NT K c H a xs) : SqT K H a xs := h.elim (fun h => .inl h.1) .inr

mutual
inductive At (K : PySem.W.Frag) (c : Co) (H : Hp) : V → D → Prop
  | non : At K c H .non .non
  | bl (b : Bool) : At K c H (.bl b) (.bl b)
  | int (i : Int) : At K c H (.int i) (.int i)
  | str (x : Str) : At K c H (.str x) (.str x)
  | ty (n : String) : At K c H (.ty n) (.ty n)
  | ref (a : Addr) : At K c H (.ref a) (.ref a)
  | st : At K c H (.ref c.sd) .st
  | tup {a : Addr} {xs : List V} {ds : List D} : NT K c H a xs → xs.length ≤ sizeLine → AtL K c H xs ds → At K c H (.ref a) (.tup ds)
  | lst {a : Addr} {xs : List V} {ds : List D} : NL K c H a xs → xs.length ≤ sizeLine → AtL K c H xs ds → At K c H (.ref a) (.lst ds)
  | dic {a : Addr} {kvs : List (Key × V)} {vs : List D} : (Rd H a (.dK kvs) ∧ ¬ c.O a) → kvs.length ≤ sizeLine → AtL K c H (kvs.map (·.2)) vs → At K c H (.ref a) (.dic (kvs.map (·.1)) vs)
inductive AtL (K : PySem.W.Frag) (c : Co) (H : Hp) : List V → List D → Prop
  | nil : AtL K c H [] []
  | cons {v : V} {vs : List V} {d : D} {ds : List D} : At K c H v d → AtL K c H vs ds → AtL K c H (v :: vs) (d :: ds)
end

section
variable {K : PySem.W.Frag} {c c' : Co} {H H' : Hp}
/-- nodes that may not be changed stand on -/
def Evo (c : Co) (H : Hp) (c' : Co) (H' : Hp) : Prop := c'.sd = c.sd ∧ ∀ b o, H b = some o → ¬ c.O b → H' b = some o ∧ ¬ c'.O b
theorem Evo.refl : Evo c H c H := ⟨rfl, fun _ _ h n => ⟨h, n⟩⟩
theorem Evo.trans {c2 : Co} {H2 : Hp} (a : Evo c H c' H') (b : Evo c' H' c2 H2) : Evo c H c2 H2 :=
  ⟨b.1.trans a.1, fun x o h n => let ⟨h1, n1⟩ := a.2 x o h n; b.2 x o h1 n1⟩
theorem Evo.rd (e : Evo c H c' H') {a : Addr} {u : HO} (h : Rd H a u ∧ ¬ c.O a) : Rd H' a u ∧ ¬ c'.O a := by
  obtain ⟨h | ⟨o, h⟩, n⟩ := h
  · exact ⟨.inl (e.2 _ _ h n).1, (e.2 _ _ h n).2⟩
  · exact ⟨.inr ⟨o, (e.2 _ _ h n).1⟩, (e.2 _ _ h n).2⟩
theorem NL.evo (e : Evo c H c' H') {a xs} (h : NL K c H a xs) : NL K c' H' a xs := h.elim (fun h => .inl (e.rd h)) .inr
theorem NT.evo (e : Evo c H c' H') {a xs} (h : NT K c H a xs) : NT K c' H' a xs := h.elim (fun h => .inl (e.rd h)) .inr
mutual
theorem At.evo (e : Evo c H c' H') : ∀ {d : D} {v : V}, At K c H v d → At K c' H' v d
  | .non, _, .non => .non
  | .bl _, _, .bl b => .bl b
  | .int _, _, .int b => .int b
  | .str _, _, .str b => .str b
  | .ty _, _, .ty b => .ty b
  | .ref _, _, .ref b => .ref b
  | .st, _, .st => by rw [← e.1]; exact .st
  | .tup ds, _, .tup h l r => .tup (h.evo e) l (AtL.evo e r)
  | .lst ds, _, .lst h l r => .lst (h.evo e) l (AtL.evo e r)
  | .dic ks vs, _, h => by
    cases h with
    | dic h l r => exact .dic (e.rd h) l (AtL.evo e r)
theorem AtL.evo (e : Evo c H c' H') : ∀ {ds : List D} {vs : List V}, AtL K c H vs ds → AtL K c' H' vs ds
  | [], _, .nil => .nil
  | d :: ds, _, .cons h r => .cons (At.evo e h) (AtL.evo e r)
end
theorem AtL.length : ∀ {ds : List D} {vs : List V}, AtL K c H vs ds → vs.length = ds.length
  | [], _, .nil => rfl
  | d :: ds, _, .cons h r => by rw [List.length_cons, List.length_cons, AtL.length r]
theorem AtL.get : ∀ {ds : List D} {vs : List V} {i : Nat} {v : V} {d : D}, AtL K c H vs ds → vs[i]? = some v → ds[i]? = some d → At K c H v d
  | _, _, 0, _, _, .cons h r, e1, e2 => by
    rw [List.getElem?_cons_zero] at e1 e2
    cases e1; cases e2; exact h
  | _, _, i + 1, _, _, .cons h r, e1, e2 => by
    rw [List.getElem?_cons_succ] at e1 e2
    exact AtL.get r e1 e2
theorem AtL.some_of {ds : List D} {vs : List V} {i : Nat} {d : D} (h : AtL K c H vs ds) (e : ds[i]? = some d) : ∃ v, vs[i]? = some v ∧ At K c H v d := by
  have hi : i < vs.length := by
    rw [h.length]
    exact (List.getElem?_eq_some_iff.mp e).1
  exact ⟨vs[i], List.getElem?_eq_getElem hi, h.get (List.getElem?_eq_getElem hi) e⟩
theorem AtL.some_v {ds : List D} {vs : List V} {i : Nat} {v : V} (h : AtL K c H vs ds) (e : vs[i]? = some v) : ∃ d, ds[i]? = some d ∧ At K c H v d := by
  have hi : i < ds.length := by
    rw [← h.length]
    exact (List.getElem?_eq_some_iff.mp e).1
  exact ⟨ds[i], List.getElem?_eq_getElem hi, h.get e (List.getElem?_eq_getElem hi)⟩
theorem AtL.append : ∀ {ds : List D} {vs : List V} {es : List D} {us : List V}, AtL K c H vs ds → AtL K c H us es → AtL K c H (vs ++ us) (ds ++ es)
  | [], _, _, _, .nil, r => r
  | d :: ds, _, _, _, .cons h t, r => .cons h (AtL.append t r)
theorem AtL.take : ∀ {ds : List D} {vs : List V} (n : Nat), AtL K c H vs ds → AtL K c H (vs.take n) (ds.take n)
  | _, _, 0, _ => .nil
  | _, _, n + 1, .nil => .nil
  | _, _, n + 1, .cons h t => .cons h (AtL.take n t)
theorem AtL.drop : ∀ {ds : List D} {vs : List V} (n : Nat), AtL K c H vs ds → AtL K c H (vs.drop n) (ds.drop n)
  | _, _, 0, h => h
  | _, _, n + 1, .nil => .nil
  | _, _, n + 1, .cons h t => AtL.drop n t
theorem AtL.reverse : ∀ {ds : List D} {vs : List V}, AtL K c H vs ds → AtL K c H vs.reverse ds.reverse
  | _, _, .nil => .nil
  | _, _, .cons h t => by rw [List.reverse_cons, List.reverse_cons]; exact (AtL.reverse t).append (.cons h .nil)
theorem AtL.bls : ∀ {bs : List Bool} {vs : List V}, AtL K c H vs (bs.map D.bl) → vs = bs.map V.bl
  | [], _, .nil => rfl
  | b :: bs, _, .cons (.bl _) t => by rw [List.map_cons, AtL.bls t]
theorem AtL.ints : ∀ {bs : List Int} {vs : List V}, AtL K c H vs (bs.map D.int) → vs = bs.map V.int
  | [], _, .nil => rfl
  | b :: bs, _, .cons (.int _) t => by rw [List.map_cons, AtL.ints t]
theorem AtL.strs : ∀ {bs : List Str} {vs : List V}, AtL K c H vs (bs.map D.str) → vs = bs.map V.str
  | [], _, .nil => rfl
  | b :: bs, _, .cons (.str _) t => by rw [List.map_cons, AtL.strs t]
theorem AtL.of_ints : ∀ (bs : List Int), AtL K c H (bs.map V.int) (bs.map D.int)
  | [] => .nil
  | b :: bs => .cons (.int b) (AtL.of_ints bs)
theorem AtL.of_strs : ∀ (bs : List Str), AtL K c H (bs.map V.str) (bs.map D.str)
  | [] => .nil
  | b :: bs => .cons (.str b) (AtL.of_strs bs)
end

/-! ### the source of draws -/
def kGreat : Key := .inr "great"
def kCells : Key := .inr "cells"
def kLeft : Key := .inr "left"
def kTurn : Key := .inr "turn"
/-- the source of draws stands -/
def StInv (c : Co) (H : Hp) : Prop := ∃ (great cells : List Int) (left turn : Int),
  H c.sd = some (.dK [(kGreat, .ref c.sg), (kCells, .ref c.sl), (kLeft, .int left), (kTurn, .int turn)]) ∧ H c.sg = some (.lst (great.map V.int)) ∧ H c.sl = some (.lst (cells.map V.int)) ∧
  c.sl ≠ c.sg ∧ great.length ≤ 63 ∧ 0 ≤ left ∧ 0 ≤ turn ∧ ∀ g ∈ great, 0 ≤ g
/-- how many draws were mixed -/
def trn (a : Addr) (H : Hp) : Nat := match H a with
  | some (.dK [_, _, _, (_, .int t)]) => t.toNat
  | _ => 0
/-- no more than so many may be -/
def most : Nat := 2 ^ 100000
theorem bd1 {t a b : Nat} (h : t + (a + b) ≤ most) : t + a ≤ most := by omega
theorem bd2 {t t1 a b : Nat} (h : t + (a + b) ≤ most) (s : t1 ≤ t + a) : t1 + b ≤ most := by omega
theorem bdR {t a b : Nat} (h : t + (a + b) ≤ most) : t + b ≤ most := by omega
theorem up1 {t x a b : Nat} (h : x ≤ t + a) : x ≤ t + (a + b) := by omega
theorem up2 {t t1 a b : Nat} (h : t1 ≤ t + a) : t1 + b ≤ t + (a + b) := by omega
theorem up3 {t t1 a b c : Nat} (h : t1 ≤ t + a) : t1 + b ≤ t + (a + (b + c)) := by omega
theorem up4 {t t1 a b c : Nat} (h : t1 ≤ t + a) : t1 + c ≤ t + (a + (b + c)) := by omega
theorem up5 {t t1 t2 a b : Nat} (h : t1 ≤ t + a) (h2 : t2 ≤ t1 + b) : t2 ≤ t + (a + b) := by omega
theorem bd3 {t t1 t2 a b c : Nat} (h : t + (a + b + c) ≤ most) (s : t1 ≤ t + a) (s2 : t2 ≤ t1 + b) : t2 + c ≤ most := by omega
/-- only the source of draws is changed -/
def Run (c : Co) (H H' : Hp) : Prop := StInv c H' ∧ ∀ b o, H b = some o → b ≠ c.sd → b ≠ c.sg → H' b = some o
/-- .. with at most n draws -/
structure Step (n : Nat) (c : Co) (H H' : Hp) : Prop where
  inv : StInv c H'
  fr : ∀ b o, H b = some o → b ≠ c.sd → b ≠ c.sg → H' b = some o
  le : trn c.sd H' ≤ trn c.sd H + n
theorem Step.run {n : Nat} {c : Co} {H H' : Hp} (h : Step n c H H') : Run c H H' := ⟨h.1, h.2⟩
theorem Run.refl {c : Co} {H : Hp} (h : StInv c H) : Run c H H := ⟨h, fun _ _ h _ _ => h⟩
theorem Step.refl {n : Nat} {c : Co} {H : Hp} (h : StInv c H) : Step n c H H := ⟨h, fun _ _ h _ _ => h, Nat.le_add_right _ _⟩
theorem Step.trans {n m : Nat} {c : Co} {H H1 H2 : Hp} (a : Step n c H H1) (b : Step m c H1 H2) : Step (n + m) c H H2 := ⟨b.1, fun x o h n m => b.2 x o (a.2 x o h n m) n m, by have := a.3; have := b.3; omega⟩
theorem Step.mono {n m : Nat} {c : Co} {H H1 : Hp} (a : Step n c H H1) (h : n ≤ m) : Step m c H H1 := ⟨a.1, a.2, by have := a.3; omega⟩
theorem Step.inl {n m : Nat} {c : Co} {H H1 : Hp} (a : Step n c H H1) : Step (n + m) c H H1 := a.mono (Nat.le_add_right _ _)
theorem Step.inr {n m : Nat} {c : Co} {H H1 : Hp} (a : Step m c H H1) : Step (n + m) c H H1 := a.mono (Nat.le_add_left _ _)
theorem trn_same {a : Addr} {H H' : Hp} (h : H' a = H a) : trn a H' = trn a H := by unfold trn; rw [h]
theorem StInv.new {c : Co} {H : Hp} (h : StInv c H) {p : Addr} {o : HO} (hp : H p = none) : StInv c (upd H p o) := by
  obtain ⟨g, cl, l, t, h1, h2, h3, r⟩ := h
  exact ⟨g, cl, l, t, by rw [upd_ne (ne_of_none h1 hp)]; exact h1, by rw [upd_ne (ne_of_none h2 hp)]; exact h2, by rw [upd_ne (ne_of_none h3 hp)]; exact h3, r⟩
theorem Run.free0 {c : Co} {H H' : Hp} (q : Run c H H') {p : Addr} (hp : H' p = none) : H p = none := by
  cases e : H p with
  | none => rfl
  | some o =>
    exfalso
    obtain ⟨⟨_, _, _, _, z1, z2, _⟩, k⟩ := q
    by_cases e1 : p = c.sd
    · rw [← e1, hp] at z1; cases z1
    · by_cases e2 : p = c.sg
      · rw [← e2, hp] at z2; cases z2
      · have := k p o e e1 e2
        rw [hp] at this; cases this
theorem Step.free0 {n : Nat} {c : Co} {H H' : Hp} (q : Step n c H H') {p : Addr} (hp : H' p = none) : H p = none := q.run.free0 hp
theorem StInv.at {c : Co} {H : Hp} (h : StInv c H) : ∃ o, H c.sd = some o := let ⟨_, _, _, _, e, _⟩ := h; ⟨_, e⟩
theorem trn_new {c : Co} {H : Hp} (h : StInv c H) {p : Addr} {o : HO} (hp : H p = none) : trn c.sd (upd H p o) = trn c.sd H := by
  obtain ⟨u, e⟩ := h.at
  exact trn_same (upd_ne (ne_of_none e hp))
theorem Step.new {n : Nat} {c : Co} {H : Hp} (h : StInv c H) {p : Addr} {o : HO} (hp : H p = none) : Step n c H (upd H p o) :=
  ⟨h.new hp, fun b u e _ _ => by rw [upd_ne (ne_of_none e hp)]; exact e, by rw [trn_new h hp]; exact Nat.le_add_right _ _⟩
theorem StInv.more {c : Co} {H H' : Hp} (h : StInv c H) (e : ∀ b o, H b = some o → H' b = some o) : StInv c H' := by
  obtain ⟨g, cl, l, t, h1, h2, h3, r⟩ := h
  exact ⟨g, cl, l, t, e _ _ h1, e _ _ h2, e _ _ h3, r⟩
theorem StInv.co {c c' : Co} {H : Hp} (h : StInv c H) (h1 : c'.sd = c.sd) (h2 : c'.sg = c.sg) (h3 : c'.sl = c.sl) : StInv c' H := by
  unfold StInv at h ⊢
  rw [h1, h2, h3]
  exact h
theorem StInv.odom {c : Co} {H H' : Hp} {O : Addr → Prop} (h : StInv c H') (d : ∀ b, O b → ∃ o, H b = some o) (k : ∀ b o, H b = some o → b ≠ c.sd → b ≠ c.sg → H' b = some o) : ∀ b, O b → ∃ o, H' b = some o := fun b hb => by
  obtain ⟨g, cl, l, t, e1, e2, _⟩ := h
  by_cases q1 : b = c.sd
  · exact ⟨_, q1 ▸ e1⟩
  · by_cases q2 : b = c.sg
    · exact ⟨_, q2 ▸ e2⟩
    · obtain ⟨o, e⟩ := d b hb
      exact ⟨o, k b o e q1 q2⟩
theorem Step.more {n : Nat} {c : Co} {H H' : Hp} (h : StInv c H) (e : ∀ b o, H b = some o → H' b = some o) : Step n c H H' := ⟨h.more e, fun b o q _ _ => e b o q, by
  obtain ⟨u, q⟩ := h.at
  rw [trn_same ((e _ _ q).trans q.symm)]
  exact Nat.le_add_right _ _⟩

/-! ### slots, an error told, the environment -/
/-- a slot: nothing known, plain data, or the def's own list or dict, which it may change -/
inductive Sl where
  | un | sh (d : D) | ol (ds : List D) | ok (kvs : List (Key × D)) | ot (kvs : List (List Key × D))
def Sl.own : Sl → Prop
  | .un => False
  | .sh _ => False
  | .ol _ => True
  | .ok _ => True
  | .ot _ => True
/-- an error: its class, its one field (or none) -/
structure Ex where
  cls : Addr
  fs : List (Str × D)
structure Env where
  sl : List Sl
  ew : Ex → Prop
inductive KvAt (K : PySem.W.Frag) (c : Co) (H : Hp) {κ : Type} : List (κ × V) → List (κ × D) → Prop
  | nil : KvAt K c H [] []
  | cons {k : κ} {v : V} {d : D} {us : List (κ × V)} {kvs : List (κ × D)} : At K c H v d → KvAt K c H us kvs → KvAt K c H ((k, v) :: us) ((k, d) :: kvs)
theorem KvAt.evo {K : PySem.W.Frag} {c c' : Co} {H H' : Hp} {κ : Type} (e : Evo c H c' H') {us : List (κ × V)} {kvs : List (κ × D)} (h : KvAt K c H us kvs) : KvAt K c' H' us kvs := by
  induction h with
  | nil => exact .nil
  | cons a _ ih => exact .cons (a.evo e) ih
theorem KvAt.length {K : PySem.W.Frag} {c : Co} {H : Hp} {κ : Type} {us : List (κ × V)} {kvs : List (κ × D)} (h : KvAt K c H us kvs) : us.length = kvs.length := by
  induction h with
  | nil => rfl
  | cons a _ ih => rw [List.length_cons, List.length_cons, ih]
def ObAt (K : PySem.W.Frag) (c : Co) (H : Hp) (p : Addr) : Sl → Prop
  | .un => True
  | .sh _ => True
  | .ol ds => ∃ xs, H p = some (.lst xs) ∧ xs.length ≤ sizeLine ∧ AtL K c H xs ds
  | .ok kvs => ∃ us, H p = some (.dK us) ∧ us.length ≤ sizeLine ∧ KvAt K c H us kvs
  | .ot kvs => ∃ us, H p = some (.dT us) ∧ us.length ≤ sizeLine ∧ KvAt K c H us kvs
def SlAt (K : PySem.W.Frag) (c : Co) (H : Hp) (p : Addr) (x : Option (Option V)) (z : Sl) : Prop :=
  (z.own → x = some (some (.ref p)) ∧ ObAt K c H p z) ∧ ∀ d, z = .sh d → ∃ v, x = some (some v) ∧ At K c H v d
theorem ObAt.evo {K : PySem.W.Frag} {c c' : Co} {H H' : Hp} {p : Addr} {z : Sl} (e : Evo c H c' H') (k : ∀ o, H p = some o → H' p = some o) (h : ObAt K c H p z) : ObAt K c' H' p z := by
  cases z with
  | un => trivial
  | sh d => trivial
  | ol ds => obtain ⟨xs, e1, l, a⟩ := h; exact ⟨xs, k _ e1, l, a.evo e⟩
  | ok ds => obtain ⟨xs, e1, l, a⟩ := h; exact ⟨xs, k _ e1, l, a.evo e⟩
  | ot ds => obtain ⟨xs, e1, l, a⟩ := h; exact ⟨xs, k _ e1, l, a.evo e⟩
theorem ObAt.dom {K : PySem.W.Frag} {c : Co} {H : Hp} {p : Addr} {z : Sl} (h : ObAt K c H p z) (o : z.own) : ∃ u, H p = some u := by
  cases z with
  | un => exact o.elim
  | sh d => exact o.elim
  | ol ds => exact ⟨_, h.choose_spec.1⟩
  | ok ds => exact ⟨_, h.choose_spec.1⟩
  | ot ds => exact ⟨_, h.choose_spec.1⟩
theorem SlAt.evo {K : PySem.W.Frag} {c c' : Co} {H H' : Hp} {p : Addr} {x : Option (Option V)} {z : Sl} (e : Evo c H c' H') (k : z.own → ∀ o, H p = some o → H' p = some o) (h : SlAt K c H p x z) : SlAt K c' H' p x z :=
  ⟨fun o => ⟨(h.1 o).1, (h.1 o).2.evo e (k o)⟩, fun d q => let ⟨v, e1, a⟩ := h.2 d q; ⟨v, e1, a.evo e⟩⟩
theorem SlAt.un {K : PySem.W.Frag} {c : Co} {H : Hp} {p : Addr} {x : Option (Option V)} : SlAt K c H p x .un := ⟨fun z => z.elim, fun _ z => nomatch z⟩
theorem SlAt.sh {K : PySem.W.Frag} {c : Co} {H : Hp} {p : Addr} {v : V} {d : D} (a : At K c H v d) : SlAt K c H p (some (some v)) (.sh d) := ⟨fun z => z.elim, fun _ z => by cases z; exact ⟨v, rfl, a⟩⟩
/-- an error's own dict, if it has a field -/
def ExAt (K : PySem.W.Frag) (c : Co) (H : Hp) (dd : Option Addr) : List (Str × D) → Prop
  | [] => True
  | fs => ∃ d vs, dd = some d ∧ H d = some (.xd (((fs.map (·.1))).zip vs)) ∧ AtL K c H vs (fs.map (·.2))
/-- what the def may want of an error that leaves it -/
def ExW (K : PySem.W.Frag) (c : Co) (H0 : Hp) (E : XK) (ew : Ex → Prop) : Prop :=
  ∀ x, ew x → ∀ dd H', Run c H0 H' → ExAt K c H' dd x.fs → E (.ref x.cls) dd H'
structure Cf (K : PySem.W.Frag) (c0 c : Co) (ad : Nat → Addr) (H0 : Hp) (E : XK) (s : L2.St) (H : Hp) (r : Env) : Prop where
  sd : c.sd = c0.sd
  sg : c.sg = c0.sg
  scl : c.sl = c0.sl
  le : ∀ b, c0.O b → c.O b
  st : Run c0 H0 H
  dom : ∀ b, c.O b → ∃ o, H b = some o
  dom0 : ∀ b, c0.O b → ∃ o, H0 b = some o
  osd : c.O c.sd
  osg : c.O c.sg
  own : ∀ i x, r.sl[i]? = some x → x.own → c.O (ad i) ∧ H0 (ad i) = none ∧ ad i ≠ c.sd ∧ ad i ≠ c.sg ∧ ad i ≠ c.sl
  inj : ∀ i j x z, r.sl[i]? = some x → r.sl[j]? = some z → x.own → z.own → ad i = ad j → i = j
  sl : ∀ i x, r.sl[i]? = some x → SlAt K c H (ad i) (s[i]?) x
  len : s.length = r.sl.length
  ex : ExW K c0 H0 E r.ew

section
variable {K : PySem.W.Frag} {c0 c : Co} {ad : Nat → Addr} {H0 H H' : Hp} {E : XK} {s : L2.St} {r : Env}
theorem Cf.inv (h : Cf K c0 c ad H0 E s H r) : StInv c H := h.st.1.co h.sd h.sg h.scl
theorem Step.evo {n : Nat} (hd : c.O c.sd) (hg : c.O c.sg) (q : Step n c H H') : Evo c H c H' :=
  ⟨rfl, fun b o e n => ⟨q.2 b o e (fun z => n (z ▸ hd)) fun z => n (z ▸ hg), n⟩⟩
theorem Cf.evo {n : Nat} (h : Cf K c0 c ad H0 E s H r) (q : Step n c H H') : Evo c H c H' := q.evo h.osd h.osg
theorem Cf.step {n : Nat} (h : Cf K c0 c ad H0 E s H r) (q : Step n c H H') : Cf K c0 c ad H0 E s H' r where
  sd := h.sd
  sg := h.sg
  scl := h.scl
  le := h.le
  st := ⟨q.1.co h.sd.symm h.sg.symm h.scl.symm, fun b o e n m => q.2 b o (h.st.2 b o e n m) (by rw [h.sd]; exact n) (by rw [h.sg]; exact m)⟩
  dom := q.1.odom h.dom q.2
  dom0 := h.dom0
  osd := h.osd
  osg := h.osg
  own := h.own
  inj := h.inj
  sl := fun i x e => (h.sl i x e).evo (h.evo q) fun o u z => q.2 _ _ z (h.own i x e o).2.2.1 (h.own i x e o).2.2.2.1
  len := h.len
  ex := h.ex
theorem Cf.free (h : Cf K c0 c ad H0 E s H r) {p : Addr} (hp : H p = none) : ¬ c.O p := fun z => by
  obtain ⟨o, e⟩ := h.dom p z
  rw [hp] at e
  cases e
end

/-! ### what is known of a def's text; where its body runs -/
structure G where
  P : Program
  w : World
  K : PySem.W.Frag
  mg : Str → Option Value
  base : Heap
  k : Nat
  N : List Str
  sc : Scope
  fn : Str → Bool
  rs : Bool
structure Dyn where
  A : Around
  s0 : Shared
  H0 : Hp
  env : PySem.Env
  outer : List PySem.Env
  stack : List PySem.Env
  ex : List Addr
  pn : List (Addr × Obj)
  xe : Value → Shared → Prop
  E : XK
abbrev G.cx (g : G) (y : Dyn) : Cx := { prog := g.P, w := g.w, K := g.K, mg := g.mg, base := g.base, A := y.A, N := g.N, s_0 := y.s0, H_0 := y.H0, env := y.env, outer := y.outer, stack := y.stack, ex := y.ex, fn := g.fn, calm := true, pn := y.pn, xe := y.xe }
structure G.Ok (g : G) (y : Dyn) : Prop where
  sc : y.env.scope = g.sc
  room : Room g.k y.A
  nd : g.N.Nodup
  po : PassesOwn (model g.P g.w) y.A y.env y.xe
  tk : g.rs = true → Passes (L2.CX g.P g.w) (g.cx y) y.E ∧ L2.Takes (g.cx y) (fun cls d _ H => y.E cls d H)

/-! ### the meanings -/
structure WE where
  f : Env → (D → Prop) → Prop
  n : Nat
instance : CoeFun WE fun _ => Env → (D → Prop) → Prop := ⟨WE.f⟩
structure WT where
  f : Env → (Bool → Prop) → Prop
  n : Nat
instance : CoeFun WT fun _ => Env → (Bool → Prop) → Prop := ⟨WT.f⟩
structure WA where
  f : Env → (List D → Prop) → Prop
  n : Nat
instance : CoeFun WA fun _ => Env → (List D → Prop) → Prop := ⟨WA.f⟩
structure WEnds where
  nx : Env → Prop
  rt : D → Prop
  bk : Env → Prop := fun _ => False
  ct : Env → Prop := fun _ => False
structure WS where
  f : WEnds → Env → Prop
  n : Nat
instance : CoeFun WS fun _ => WEnds → Env → Prop := ⟨WS.f⟩
def SemE (K : PySem.W.Frag) (E : XK) (m : WE) (t : TE) : Prop := ∀ c0 c ad H0 s H r R Q, Cf K c0 c ad H0 E s H r → trn c.sd H + m.n ≤ most → m r R → (∀ d v H', R d → Step m.n c H H' → At K c H' v d → Q v H') → t s H Q
def SemT (K : PySem.W.Frag) (E : XK) (m : WT) (t : TT) : Prop := ∀ c0 c ad H0 s H r R Q, Cf K c0 c ad H0 E s H r → trn c.sd H + m.n ≤ most → m r R → (∀ b H', R b → Step m.n c H H' → Q b H') → t s H Q
def SemA (K : PySem.W.Frag) (E : XK) (n : Nat) (m : WA) (t : TA) : Prop := ∀ c0 c ad H0 s H r R Q, Cf K c0 c ad H0 E s H r → trn c.sd H + m.n ≤ most → m r R → (∀ ds vs H', R ds → ds.length = n → Step m.n c H H' → AtL K c H' vs ds → Q vs H') → t s H Q
/-- what is wanted behind a statement that begins with (c, H); at the end no more than T draws are mixed -/
structure EndsOk (K : PySem.W.Frag) (c0 : Co) (H0 : Hp) (E : XK) (c : Co) (H : Hp) (T : Nat) (W : WEnds) (X : Ends) : Prop where
  nx : ∀ c' ad' s' H' r', Evo c H c' H' → trn c'.sd H' ≤ T → W.nx r' → Cf K c0 c' ad' H0 E s' H' r' → X.nx s' H'
  bk : ∀ c' ad' s' H' r', Evo c H c' H' → trn c'.sd H' ≤ T → W.bk r' → Cf K c0 c' ad' H0 E s' H' r' → X.bk s' H'
  ct : ∀ c' ad' s' H' r', Evo c H c' H' → trn c'.sd H' ≤ T → W.ct r' → Cf K c0 c' ad' H0 E s' H' r' → X.ct s' H'
  rt : ∀ d v H', W.rt d → Run c0 H0 H' → trn c0.sd H' ≤ T → At K c0 H' v d → X.rt v H'
def SemS (K : PySem.W.Frag) (E : XK) (m : WS) (t : TS) : Prop := ∀ c0 c ad H0 s H r W X, Cf K c0 c ad H0 E s H r → trn c.sd H + m.n ≤ most → m W r → EndsOk K c0 H0 E c H (trn c.sd H + m.n) W X → t X s H
theorem EndsOk.evo {K : PySem.W.Frag} {c0 : Co} {H0 : Hp} {E : XK} {c c' : Co} {H H' : Hp} {T T' : Nat} {W : WEnds} {X : Ends} (h : EndsOk K c0 H0 E c H T W X) (e : Evo c H c' H') (le : T' ≤ T) : EndsOk K c0 H0 E c' H' T' W X :=
  ⟨fun c2 ad s H2 r q l => h.nx c2 ad s H2 r (e.trans q) (Nat.le_trans l le), fun c2 ad s H2 r q l => h.bk c2 ad s H2 r (e.trans q) (Nat.le_trans l le), fun c2 ad s H2 r q l => h.ct c2 ad s H2 r (e.trans q) (Nat.le_trans l le), fun d v H2 w q l => h.rt d v H2 w q (Nat.le_trans l le)⟩

def DE (g : G) (e : Expr) (m : WE) : Prop := ∃ t : XK → TE, ∀ y, g.Ok y → PE (g.cx y) e (t y.E) ∧ SemE g.K y.E m (t y.E)
def DT (g : G) (e : Expr) (m : WT) : Prop := ∃ t : XK → TT, ∀ y, g.Ok y → PT (g.cx y) e (t y.E) ∧ SemT g.K y.E m (t y.E)
def DW (g : G) (e : Expr) (m : WT) : Prop := ∃ t : XK → TT, ∀ y, g.Ok y → PW (g.cx y) e (t y.E) ∧ SemT g.K y.E m (t y.E)
def DA (g : G) (es : List Expr) (m : WA) : Prop := ∃ t : XK → TA, ∀ y, g.Ok y → PA (g.cx y) es (t y.E) ∧ SemA g.K y.E es.length m (t y.E)
def DSt (g : G) (st : Stmt) (m : WS) : Prop := ∃ t : XK → TS, ∀ y, g.Ok y → PS (g.cx y) st (t y.E) ∧ SemS g.K y.E m (t y.E)
def DSs (g : G) (st : List Stmt) (m : WS) : Prop := ∃ t : XK → TS, ∀ y, g.Ok y → PSs (g.cx y) st (t y.E) ∧ SemS g.K y.E m (t y.E)

/-! ### names and constants -/
theorem G.Ok.gl {g : G} {y : Dyn} (ok : g.Ok y) {x : Str} (h : g.sc.names.lookup x = some .globalImplicit) : Gl (g.cx y) x := by
  show y.env.scope.names.lookup x = some .globalImplicit
  rw [ok.sc]
  exact h
section
variable {g : G} {pos : Pos}
def eVar (i : Nat) : WE := ⟨fun r R => ∃ d, r.sl[i]? = some (.sh d) ∧ R d, 0⟩
def eC (d : D) : WE := ⟨fun _ R => R d, 0⟩
theorem de_var (i : Nat) {x : Str} (hN : g.N[i]? = some x := by rfl) (hv : g.sc.names.lookup x = some .local ∨ g.sc.names.lookup x = some .cell ∨ g.sc.names.lookup x = some .free := by first | exact Or.inl rfl | exact Or.inr (Or.inl rfl) | exact Or.inr (Or.inr rfl))
    (hd : (x == ("__debug__" : Str)) = false := by decide) (hcd : (x == ("__classdict__" : Str)) = false := by decide) : DE g (.Name x pos) (eVar i) := by
  refine ⟨fun _ => tVar i, fun y ok => ⟨pe_var (X := g.cx y) (i := i) hN (by unfold Vis; rw [ok.sc]; exact hv) hd hcd, ?_⟩⟩
  intro c0 c ad H0 s H r R Q cf hb ⟨d, e, hR⟩ k
  obtain ⟨v, e1, a⟩ := (cf.sl i _ e).2 d rfl
  exact ⟨v, e1, k d v H hR (Step.refl cf.inv) a⟩
theorem sem_c {K : PySem.W.Frag} {E : XK} {d : D} {v : V} (h : ∀ c H, At K c H v d) : SemE K E (eC d) (tC v) :=
  fun c0 c ad H0 s H r R Q cf hb hR k => k d v H hR (Step.refl cf.inv) (h c H)
theorem de_int {i j} : DE g (.Constant (.int i) j pos) (eC (.int i)) := ⟨fun _ => tC (.int i), fun y _ => ⟨pe_int, sem_c fun _ _ => .int i⟩⟩
theorem de_bl {b j} : DE g (.Constant (.bool b) j pos) (eC (.bl b)) := ⟨fun _ => tC (.bl b), fun y _ => ⟨pe_bl, sem_c fun _ _ => .bl b⟩⟩
theorem de_non {j} : DE g (.Constant .none j pos) (eC .non) := ⟨fun _ => tC .non, fun y _ => ⟨pe_non, sem_c fun _ _ => .non⟩⟩
theorem de_str {x j} : DE g (.Constant (.str x) j pos) (eC (.str x)) := ⟨fun _ => tC (.str x), fun y _ => ⟨pe_str, sem_c fun _ _ => .str x⟩⟩
/-- a constant of the module's -/
structure Glob (K : PySem.W.Frag) (mg : Str → Option Value) (x : Str) (d : D) : Prop where
  ex : ∃ u v, mg x = some u ∧ RelV v u ∧ ∀ c H, At K c H v d
theorem de_glob {x : Str} {d : D} (hc : Glob g.K g.mg x d) (hg : g.sc.names.lookup x = some .globalImplicit := by rfl) (hd : (x == ("__debug__" : Str)) = false := by decide) : DE g (.Name x pos) (eC d) := by
  obtain ⟨u, v, hm, r, a⟩ := hc.ex
  exact ⟨fun _ => tC v, fun y ok => ⟨pe_glob (X := g.cx y) (v := v) (u := u) (ok.gl hg) hm r hd, sem_c a⟩⟩
/-- a built-in class by its name -/
theorem de_bty {x : Str} {n : String} (hm : g.mg x = none) (hv : bootBuiltins x = some (.type n) := by decide +kernel) (hg : g.sc.names.lookup x = some .globalImplicit := by rfl) (hn : x ≠ "__name__" := by decide)
    (hd : (x == ("__debug__" : Str)) = false := by decide) : DE g (.Name x pos) (eC (.ty n)) :=
  ⟨fun _ => tC (.ty n), fun y ok => ⟨pe_bltn (X := g.cx y) (v := .ty n) (u := .type n) (ok.gl hg) hm hv rfl hn hd, sem_c fun _ _ => .ty n⟩⟩
end
end DS
/-! DS2: operators, calls, displays, tests. -/
namespace DS
open PySem PySem.Spec PyProof.Rows L2

/-- the heap as an operator sees it -/
structure Ho (c : Co) (H : Hp) : Prop where
  inv : StInv c H
  dom : ∀ b, c.O b → ∃ o, H b = some o
  osd : c.O c.sd
  osg : c.O c.sg
theorem Cf.ho {K c0 c ad H0 E s H r} (h : Cf K c0 c ad H0 E s H r) : Ho c H := ⟨h.inv, h.dom, h.osd, h.osg⟩
theorem Ho.free {c : Co} {H : Hp} (h : Ho c H) {p : Addr} (hp : H p = none) : ¬ c.O p := fun z => by
  obtain ⟨o, e⟩ := h.dom p z
  rw [hp] at e
  cases e
theorem Ho.step {n : Nat} {c : Co} {H H' : Hp} (h : Ho c H) (q : Step n c H H') : Ho c H' := ⟨q.1, q.1.odom h.dom q.2, h.osd, h.osg⟩
theorem Ho.new {c : Co} {H : Hp} (h : Ho c H) {p : Addr} {o : HO} (hp : H p = none) {n : Nat} : Step n c H (upd H p o) := Step.new h.inv hp
theorem Ho.evo {n : Nat} {c : Co} {H H' : Hp} (h : Ho c H) (q : Step n c H H') : Evo c H c H' := q.evo h.osd h.osg
/-- a new tuple, a new list -/
theorem Ho.tup {K : PySem.W.Frag} {c : Co} {H : Hp} (h : Ho c H) {p : Addr} {xs : List V} {ds : List D} (hp : H p = none) (l : xs.length ≤ sizeLine) (a : AtL K c H xs ds) : At K c (upd H p (.tup xs)) (.ref p) (.tup ds) :=
  .tup (.inl ⟨.inl upd_same, h.free hp⟩) l (a.evo (h.evo (h.new (n := 0) hp)))
theorem Ho.lst {K : PySem.W.Frag} {c : Co} {H : Hp} (h : Ho c H) {p : Addr} {xs : List V} {ds : List D} (hp : H p = none) (l : xs.length ≤ sizeLine) (a : AtL K c H xs ds) : At K c (upd H p (.lst xs)) (.ref p) (.lst ds) :=
  .lst (.inl ⟨.inl upd_same, h.free hp⟩) l (a.evo (h.evo (h.new (n := 0) hp)))

/-! ### two-place operators by values -/
def SemO (K : PySem.W.Frag) (f : D → D → Option D) (r : R2) : Prop := ∀ c H v u x y z Q, Ho c H → At K c H v x → At K c H u y → f x y = some z → (∀ v' H', Step 0 c H H' → At K c H' v' z → Q v' H') → r v u H Q
def eOp (f : D → D → Option D) (a b : WE) : WE := ⟨fun r R => a r fun x => b r fun y => ∃ z, f x y = some z ∧ R z, a.n + b.n⟩
theorem sem_op {K : PySem.W.Frag} {E : XK} {f : D → D → Option D} {r : R2} {a b : WE} {ta tb : TE} (h : SemO K f r) (ha : SemE K E a ta) (hb : SemE K E b tb) : SemE K E (eOp f a b) (tOp r ta tb) := by
  intro c0 c ad H0 s H rr R Q cf bd hm k
  refine ha c0 c ad H0 s H rr _ _ cf (bd1 bd) hm fun x v H1 hx s1 a1 => ?_
  refine hb c0 c ad H0 s H1 rr _ _ (cf.step s1) (bd2 bd s1.3) hx fun y u H2 hy s2 a2 => ?_
  obtain ⟨z, e, hR⟩ := hy
  have cf2 := (cf.step s1).step s2
  exact h c H2 v u x y z Q cf2.ho (a1.evo ((cf.step s1).evo s2)) a2 e fun v' H' s3 a3 => k z v' H' hR ((s1.trans s2).trans s3) a3
theorem de_op {g : G} {op : Operator} {f : D → D → Option D} {r : R2} {a b : Expr} {ma mb : WE} {pos : Pos} (ho : ∀ y, g.Ok y → OpR (g.cx y) (binaryOp op) r) (h : SemO g.K f r) (ha : DE g a ma) (hb : DE g b mb) : DE g (.BinOp a op b pos) (eOp f ma mb) := by
  obtain ⟨ta, pa⟩ := ha
  obtain ⟨tb, pb⟩ := hb
  exact ⟨fun E => tOp r (ta E) (tb E), fun y ok => ⟨pe_op (ho y ok) (pa y ok).1 (pb y ok).1, sem_op h (pa y ok).2 (pb y ok).2⟩⟩
theorem de_cmp {g : G} {op : CmpOp} {f : D → D → Option D} {r : R2} {a b : Expr} {ma mb : WE} {pos : Pos} (ho : ∀ y, g.Ok y → OpR (g.cx y) (compareOp op) r) (h : SemO g.K f r) (ha : DE g a ma) (hb : DE g b mb)
    (hm : behindInMarks op b = false := by first | exact nomark _ | rfl) : DE g (.Compare a [op] [b] pos) (eOp f ma mb) := by
  obtain ⟨ta, pa⟩ := ha
  obtain ⟨tb, pb⟩ := hb
  exact ⟨fun E => tOp r (ta E) (tb E), fun y ok => ⟨pe_cmpR (ho y ok) (pa y ok).1 (pb y ok).1 hm, sem_op h (pa y ok).2 (pb y ok).2⟩⟩
/-- a value that is a bool, as a test -/
def tV (m : WE) : WT := ⟨fun r R => m r fun d => ∃ b, d = .bl b ∧ R b, m.n⟩
theorem sem_test {K : PySem.W.Frag} {E : XK} {m : WE} {t : TE} (h : SemE K E m t) : SemT K E (tV m) (tTest t) := by
  intro c0 c ad H0 s H rr R Q cf bd hm k
  refine h c0 c ad H0 s H rr _ _ cf bd hm fun x v H1 hx s1 a1 => ?_
  obtain ⟨b, rfl, hR⟩ := hx
  cases a1
  exact ⟨b, rfl, k b H1 hR s1⟩
theorem sem_tB {K : PySem.W.Frag} {E : XK} {m : WE} {t : TE} (h : SemE K E m t) : SemT K E (tV m) (tB t) := sem_test h
theorem dt_cmp {g : G} {op : CmpOp} {f : D → D → Option D} {r : R2} {a b : Expr} {ma mb : WE} {pos : Pos} (ho : ∀ y, g.Ok y → OpR (g.cx y) (compareOp op) r) (h : SemO g.K f r) (ha : DE g a ma) (hb : DE g b mb)
    (hm : behindInMarks op b = false := by first | exact nomark _ | rfl) : DT g (.Compare a [op] [b] pos) (tV (eOp f ma mb)) := by
  obtain ⟨ta, pa⟩ := ha
  obtain ⟨tb, pb⟩ := hb
  exact ⟨fun E => tTest (tOp r (ta E) (tb E)), fun y ok => ⟨pt_cmpR (ho y ok) (pa y ok).1 (pb y ok).1 hm, sem_test (sem_op h (pa y ok).2 (pb y ok).2)⟩⟩
/-- a < b < c -/
def eCh (f f' : D → D → Option D) (a b c : WE) : WE := ⟨fun r R => a r fun x => b r fun y => ∃ k, f x y = some (.bl k) ∧ if k = true then c r fun w => ∃ z, f' y w = some z ∧ R z else R (.bl false), a.n + b.n + c.n⟩
theorem sem_ch {K : PySem.W.Frag} {E : XK} {f f' : D → D → Option D} {r r' : R2} {a b c : WE} {ta tb tc : TE} (h : SemO K f r) (h' : SemO K f' r') (ha : SemE K E a ta) (hb : SemE K E b tb) (hc : SemE K E c tc) :
    SemE K E (eCh f f' a b c) (tChain r r' ta tb tc) := by
  intro c0 co ad H0 s H rr R Q cf bd hm k
  refine ha c0 co ad H0 s H rr _ _ cf (bd1 (bd1 bd)) hm fun x v H1 hx s1 a1 => ?_
  have cf1 := cf.step s1
  refine hb c0 co ad H0 s H1 rr _ _ cf1 (bd2 (bd1 bd) s1.3) hx fun y u H2 hy s2 a2 => ?_
  have cf2 := cf1.step s2
  obtain ⟨b, e, hR⟩ := hy
  refine h co H2 v u x y _ _ cf2.ho (a1.evo (cf1.evo s2)) a2 e fun v' H' s3 a3 => ?_
  cases a3
  have cf3 := cf2.step s3
  cases b with
  | true =>
    refine ⟨true, rfl, ?_⟩
    rw [if_pos rfl] at hR ⊢
    refine hc c0 co ad H0 s H' rr _ _ cf3 (bd3 bd s1.3 (s2.trans s3).3) hR fun w q H4 hw s4 a4 => ?_
    obtain ⟨z, e4, hR⟩ := hw
    exact h' co H4 u q y w z Q (cf3.step s4).ho ((a2.evo (cf2.evo s3)).evo (cf3.evo s4)) a4 e4 fun v5 H5 s5 a5 => k z v5 H5 hR ((((s1.trans s2).trans s3).trans s4).trans s5) a5
  | false =>
    refine ⟨false, rfl, ?_⟩
    rw [if_neg Bool.false_ne_true] at hR ⊢
    exact k _ _ H' hR ((s1.trans s2).trans s3).inl (.bl false)
theorem de_ch {g : G} {op op' : CmpOp} {f f' : D → D → Option D} {r r' : R2} {a b c : Expr} {ma mb mc : WE} {pos : Pos} (ho : ∀ y, g.Ok y → OpR (g.cx y) (compareOp op) r) (h : SemO g.K f r) (ho' : ∀ y, g.Ok y → OpR (g.cx y) (compareOp op') r') (h' : SemO g.K f' r')
    (ha : DE g a ma) (hb : DE g b mb) (hc : DE g c mc) (hm : lastMarks [op, op'] [b, c] = false := by with_unfolding_all rfl) : DE g (.Compare a [op, op'] [b, c] pos) (eCh f f' ma mb mc) := by
  obtain ⟨ta, pa⟩ := ha
  obtain ⟨tb, pb⟩ := hb
  obtain ⟨tc, pc⟩ := hc
  exact ⟨fun E => tChain r r' (ta E) (tb E) (tc E), fun y ok => ⟨pe_chain (ho y ok) (ho' y ok) (pa y ok).1 (pb y ok).1 (pc y ok).1 hm, sem_ch h h' (pa y ok).2 (pb y ok).2 (pc y ok).2⟩⟩
theorem dt_ch {g : G} {op op' : CmpOp} {f f' : D → D → Option D} {r r' : R2} {a b c : Expr} {ma mb mc : WE} {pos : Pos} (ho : ∀ y, g.Ok y → OpR (g.cx y) (compareOp op) r) (h : SemO g.K f r) (ho' : ∀ y, g.Ok y → OpR (g.cx y) (compareOp op') r') (h' : SemO g.K f' r')
    (ha : DE g a ma) (hb : DE g b mb) (hc : DE g c mc) (hm : lastMarks [op, op'] [b, c] = false := by with_unfolding_all rfl) : DT g (.Compare a [op, op'] [b, c] pos) (tV (eCh f f' ma mb mc)) := by
  obtain ⟨ta, pa⟩ := ha
  obtain ⟨tb, pb⟩ := hb
  obtain ⟨tc, pc⟩ := hc
  exact ⟨fun E => tTest (tChain r r' (ta E) (tb E) (tc E)), fun y ok => ⟨pt_chain (ho y ok) (ho' y ok) (pa y ok).1 (pb y ok).1 (pc y ok).1 hm, sem_test (sem_ch h h' (pa y ok).2 (pb y ok).2 (pc y ok).2)⟩⟩

/-! ### tests, and, or, not, if-expressions -/
theorem dt_val {g : G} {e : Expr} {m : WE} (h : DE g e m) (he : ∀ env whole, isTrue e env whole = (do let v ← whole; standAt e.pos; holding [v] (truthy v)) := by intro _ _; rfl) : DT g e (tV m) := by
  obtain ⟨t, p⟩ := h
  exact ⟨fun E => tB (t E), fun y ok => ⟨pt_val (p y ok).1 (he _), sem_tB (p y ok).2⟩⟩
def cAnd (a b : WT) : WT := ⟨fun r R => a r fun x => if x = true then b r R else R false, a.n + b.n⟩
def cOr (a b : WT) : WT := ⟨fun r R => a r fun x => if x = true then R true else b r R, a.n + b.n⟩
def cNot (a : WT) : WT := ⟨fun r R => a r fun x => R (!x), a.n⟩
section
variable {K : PySem.W.Frag} {E : XK}
theorem sem_cAnd {a b : WT} {ta tb : TT} (ha : SemT K E a ta) (hb : SemT K E b tb) : SemT K E (cAnd a b) (tAnd ta tb) := by
  intro c0 c ad H0 s H rr R Q cf bd hm k
  refine ha c0 c ad H0 s H rr _ _ cf (bd1 bd) hm fun x H1 hx s1 => ?_
  cases x with
  | true =>
    rw [if_pos rfl] at hx ⊢
    exact hb c0 c ad H0 s H1 rr _ _ (cf.step s1) (bd2 bd s1.3) hx fun x2 H2 hx2 s2 => k x2 H2 hx2 (s1.trans s2)
  | false =>
    rw [if_neg Bool.false_ne_true] at hx ⊢
    exact k false H1 hx s1.inl
theorem sem_cOr {a b : WT} {ta tb : TT} (ha : SemT K E a ta) (hb : SemT K E b tb) : SemT K E (cOr a b) (tOr ta tb) := by
  intro c0 c ad H0 s H rr R Q cf bd hm k
  refine ha c0 c ad H0 s H rr _ _ cf (bd1 bd) hm fun x H1 hx s1 => ?_
  cases x with
  | true =>
    rw [if_pos rfl] at hx ⊢
    exact k true H1 hx s1.inl
  | false =>
    rw [if_neg Bool.false_ne_true] at hx ⊢
    exact hb c0 c ad H0 s H1 rr _ _ (cf.step s1) (bd2 bd s1.3) hx fun x2 H2 hx2 s2 => k x2 H2 hx2 (s1.trans s2)
theorem sem_cNot {a : WT} {ta : TT} (ha : SemT K E a ta) : SemT K E (cNot a) (tNot ta) := by
  intro c0 c ad H0 s H rr R Q cf bd hm k
  exact ha c0 c ad H0 s H rr _ _ cf bd hm fun x H1 hx s1 => k (!x) H1 hx s1
end
section
variable {g : G} {a b : Expr} {rest : List Expr} {ma mb : WT} {pos : Pos}
theorem dw_and1 (h : DT g a ma) : DW g (.BoolOp .And [a] pos) ma := let ⟨t, p⟩ := h; ⟨t, fun y ok => ⟨pw_and1 (p y ok).1, (p y ok).2⟩⟩
theorem dw_or1 (h : DT g a ma) : DW g (.BoolOp .Or [a] pos) ma := let ⟨t, p⟩ := h; ⟨t, fun y ok => ⟨pw_or1 (p y ok).1, (p y ok).2⟩⟩
theorem dw_and (h : DT g a ma) (h2 : DW g (.BoolOp .And (b :: rest) pos) mb) : DW g (.BoolOp .And (a :: b :: rest) pos) (cAnd ma mb) :=
  let ⟨t, p⟩ := h; let ⟨t2, p2⟩ := h2; ⟨fun E => tAnd (t E) (t2 E), fun y ok => ⟨pw_and (p y ok).1 (p2 y ok).1, sem_cAnd (p y ok).2 (p2 y ok).2⟩⟩
theorem dw_or (h : DT g a ma) (h2 : DW g (.BoolOp .Or (b :: rest) pos) mb) : DW g (.BoolOp .Or (a :: b :: rest) pos) (cOr ma mb) :=
  let ⟨t, p⟩ := h; let ⟨t2, p2⟩ := h2; ⟨fun E => tOr (t E) (t2 E), fun y ok => ⟨pw_or (p y ok).1 (p2 y ok).1, sem_cOr (p y ok).2 (p2 y ok).2⟩⟩
theorem dt_w {e : Expr} (h : DW g e ma) : DT g e ma := let ⟨t, p⟩ := h; ⟨t, fun y ok => ⟨(p y ok).1.pt, (p y ok).2⟩⟩
theorem dt_not (h : DT g a ma) : DT g (.UnaryOp .Not a pos) (cNot ma) := let ⟨t, p⟩ := h; ⟨fun E => tNot (t E), fun y ok => ⟨pt_not (p y ok).1, sem_cNot (p y ok).2⟩⟩
end
/-- .. as values: all but the last are bools -/
def eAnd (a b : WE) : WE := ⟨fun r R => a r fun x => ∃ k, x = .bl k ∧ if k = true then b r R else R (.bl false), a.n + b.n⟩
def eOr (a b : WE) : WE := ⟨fun r R => a r fun x => ∃ k, x = .bl k ∧ if k = true then R (.bl true) else b r R, a.n + b.n⟩
def eNot (a : WE) : WE := ⟨fun r R => a r fun x => ∃ k, x = .bl k ∧ R (.bl (!k)), a.n⟩
def eIf (c : WT) (a b : WE) : WE := ⟨fun r R => c r fun k => if k = true then a r R else b r R, c.n + (a.n + b.n)⟩
section
variable {K : PySem.W.Frag} {E : XK}
theorem sem_eAnd {a b : WE} {ta tb : TE} (ha : SemE K E a ta) (hb : SemE K E b tb) : SemE K E (eAnd a b) (tAndV ta tb) := by
  intro c0 c ad H0 s H rr R Q cf bd hm k
  refine ha c0 c ad H0 s H rr _ _ cf (bd1 bd) hm fun x v H1 hx s1 a1 => ?_
  obtain ⟨b', rfl, hx⟩ := hx
  cases a1
  refine ⟨b', rfl, ?_⟩
  cases b' with
  | true =>
    rw [if_pos rfl] at hx ⊢
    exact hb c0 c ad H0 s H1 rr _ _ (cf.step s1) (bd2 bd s1.3) hx fun x2 v2 H2 hx2 s2 a2 => k x2 v2 H2 hx2 (s1.trans s2) a2
  | false =>
    rw [if_neg Bool.false_ne_true] at hx ⊢
    exact k _ _ H1 hx s1.inl (.bl false)
theorem sem_eOr {a b : WE} {ta tb : TE} (ha : SemE K E a ta) (hb : SemE K E b tb) : SemE K E (eOr a b) (tOrV ta tb) := by
  intro c0 c ad H0 s H rr R Q cf bd hm k
  refine ha c0 c ad H0 s H rr _ _ cf (bd1 bd) hm fun x v H1 hx s1 a1 => ?_
  obtain ⟨b', rfl, hx⟩ := hx
  cases a1
  refine ⟨b', rfl, ?_⟩
  cases b' with
  | true =>
    rw [if_pos rfl] at hx ⊢
    exact k _ _ H1 hx s1.inl (.bl true)
  | false =>
    rw [if_neg Bool.false_ne_true] at hx ⊢
    exact hb c0 c ad H0 s H1 rr _ _ (cf.step s1) (bd2 bd s1.3) hx fun x2 v2 H2 hx2 s2 a2 => k x2 v2 H2 hx2 (s1.trans s2) a2
theorem sem_eNot {a : WE} {ta : TE} (ha : SemE K E a ta) : SemE K E (eNot a) (tNotV ta) := by
  intro c0 c ad H0 s H rr R Q cf bd hm k
  refine ha c0 c ad H0 s H rr _ _ cf bd hm fun x v H1 hx s1 a1 => ?_
  obtain ⟨b', rfl, hx⟩ := hx
  cases a1
  exact ⟨b', rfl, k _ _ H1 hx s1 (.bl _)⟩
theorem sem_eIf {t : WT} {a b : WE} {tt : TT} {ta tb : TE} (ht : SemT K E t tt) (ha : SemE K E a ta) (hb : SemE K E b tb) : SemE K E (eIf t a b) (tIf tt ta tb) := by
  intro c0 c ad H0 s H rr R Q cf bd hm k
  refine ht c0 c ad H0 s H rr _ _ cf (bd1 bd) hm fun x H1 hx s1 => ?_
  cases x with
  | true =>
    rw [if_pos rfl] at hx ⊢
    exact ha c0 c ad H0 s H1 rr _ _ (cf.step s1) (bd1 (bd2 bd s1.3)) hx fun x2 v2 H2 hx2 s2 a2 => k x2 v2 H2 hx2 (s1.trans s2.inl) a2
  | false =>
    rw [if_neg Bool.false_ne_true] at hx ⊢
    exact hb c0 c ad H0 s H1 rr _ _ (cf.step s1) (bdR (bd2 bd s1.3)) hx fun x2 v2 H2 hx2 s2 a2 => k x2 v2 H2 hx2 (s1.trans s2.inr) a2
end
section
variable {g : G} {a b : Expr} {rest : List Expr} {ma mb : WE} {pos : Pos}
theorem de_one {op} (h : DE g a ma) : DE g (.BoolOp op [a] pos) ma := let ⟨t, p⟩ := h; ⟨t, fun y ok => ⟨pe_one (p y ok).1, (p y ok).2⟩⟩
theorem de_and (h : DE g a ma) (h2 : DE g (.BoolOp .And (b :: rest) pos) mb) : DE g (.BoolOp .And (a :: b :: rest) pos) (eAnd ma mb) :=
  let ⟨t, p⟩ := h; let ⟨t2, p2⟩ := h2; ⟨fun E => tAndV (t E) (t2 E), fun y ok => ⟨pe_and (p y ok).1 (p2 y ok).1, sem_eAnd (p y ok).2 (p2 y ok).2⟩⟩
theorem de_or (h : DE g a ma) (h2 : DE g (.BoolOp .Or (b :: rest) pos) mb) : DE g (.BoolOp .Or (a :: b :: rest) pos) (eOr ma mb) :=
  let ⟨t, p⟩ := h; let ⟨t2, p2⟩ := h2; ⟨fun E => tOrV (t E) (t2 E), fun y ok => ⟨pe_or (p y ok).1 (p2 y ok).1, sem_eOr (p y ok).2 (p2 y ok).2⟩⟩
theorem de_not (h : DE g a ma) : DE g (.UnaryOp .Not a pos) (eNot ma) := let ⟨t, p⟩ := h; ⟨fun E => tNotV (t E), fun y ok => ⟨pe_not (p y ok).1, sem_eNot (p y ok).2⟩⟩
theorem de_if {c : Expr} {mc : WT} (hc : DT g c mc) (h : DE g a ma) (h2 : DE g b mb) : DE g (.IfExp c a b pos) (eIf mc ma mb) :=
  let ⟨tc, pc⟩ := hc; let ⟨t, p⟩ := h; let ⟨t2, p2⟩ := h2; ⟨fun E => tIf (tc E) (t E) (t2 E), fun y ok => ⟨pe_ifExp (pc y ok).1 (p y ok).1 (p2 y ok).1, sem_eIf (pc y ok).2 (p y ok).2 (p2 y ok).2⟩⟩
end

/-! ### arguments, displays -/
def aNil : WA := ⟨fun _ R => R [], 0⟩
def aCons (a : WE) (b : WA) : WA := ⟨fun r R => a r fun x => b r fun xs => R (x :: xs), a.n + b.n⟩
theorem sem_nil {K : PySem.W.Frag} {E : XK} : SemA K E 0 aNil tNil := fun c0 c ad H0 s H r R Q cf bd hR k => k [] [] H hR rfl (Step.refl cf.inv) .nil
theorem sem_cons {K : PySem.W.Frag} {E : XK} {a : WE} {b : WA} {ta : TE} {tb : TA} {n : Nat} (ha : SemE K E a ta) (hb : SemA K E n b tb) : SemA K E (n + 1) (aCons a b) (tCons ta tb) := by
  intro c0 c ad H0 s H rr R Q cf bd hm k
  refine ha c0 c ad H0 s H rr _ _ cf (bd1 bd) hm fun x v H1 hx s1 a1 => ?_
  have cf1 := cf.step s1
  exact hb c0 c ad H0 s H1 rr _ _ cf1 (bd2 bd s1.3) hx fun xs vs H2 hx2 hn s2 a2 => k (x :: xs) (v :: vs) H2 hx2 (by rw [List.length_cons, hn]) (s1.trans s2) (.cons (a1.evo (cf1.evo s2)) a2)
section
variable {g : G} {e : Expr} {es : List Expr} {m : WE} {ma : WA} {pos : Pos}
theorem da_nil : DA g [] aNil := ⟨fun _ => tNil, fun _ _ => ⟨pa_nil, sem_nil⟩⟩
theorem da_cons (h : DE g e m) (h2 : DA g es ma) (hs : ∀ env, starEach (e :: es) env = (false, eval e env) :: starEach es env := by intro _; rfl) : DA g (e :: es) (aCons m ma) :=
  let ⟨t, p⟩ := h; let ⟨t2, p2⟩ := h2; ⟨fun E => tCons (t E) (t2 E), fun y ok => ⟨pa_cons (p y ok).1 (p2 y ok).1 (hs _), sem_cons (p y ok).2 (p2 y ok).2⟩⟩
def eTup (a : WA) : WE := ⟨fun r R => a r fun ds => ds.length ≤ sizeLine ∧ R (.tup ds), a.n⟩
def eLst (a : WA) : WE := ⟨fun r R => a r fun ds => ds.length ≤ sizeLine ∧ R (.lst ds), a.n⟩
theorem de_tup {x1} (h : DA g es ma) : DE g (.Tuple es x1 pos) (eTup ma) := by
  obtain ⟨t, p⟩ := h
  refine ⟨fun E => tTup (t E), fun y ok => ⟨pe_tup (p y ok).1, ?_⟩⟩
  intro c0 c ad H0 s H rr R Q cf bd hm k
  refine (p y ok).2 c0 c ad H0 s H rr _ _ cf bd hm fun ds vs H1 hx _ s1 a1 => ?_
  have l : vs.length ≤ sizeLine := by rw [a1.length]; exact hx.1
  have ho := (cf.step s1).ho
  exact ⟨l, fun q hq => k _ _ _ hx.2 (s1.trans (ho.new (n := 0) hq)) (ho.tup hq l a1)⟩
theorem de_lst (h : DA g es ma) : DE g (.List es pos) (eLst ma) := by
  obtain ⟨t, p⟩ := h
  refine ⟨fun E => tLst (t E), fun y ok => ⟨pe_lst (p y ok).1, ?_⟩⟩
  intro c0 c ad H0 s H rr R Q cf bd hm k
  refine (p y ok).2 c0 c ad H0 s H rr _ _ cf bd hm fun ds vs H1 hx _ s1 a1 => ?_
  have l : vs.length ≤ sizeLine := by rw [a1.length]; exact hx.1
  have ho := (cf.step s1).ho
  exact ⟨l, fun q hq => k _ _ _ hx.2 (s1.trans (ho.new (n := 0) hq)) (ho.lst hq l a1)⟩
theorem de_dic0 : DE g (.Dict [] [] pos) (eC (.dic [] [])) := by
  refine ⟨fun E => tDNewK, fun y ok => ⟨pe_dnewK, ?_⟩⟩
  intro c0 c ad H0 s H rr R Q cf bd hm k
  exact fun q hq => k _ _ _ hm (cf.ho.new hq) (At.dic (kvs := []) ⟨.inl upd_same, cf.free hq⟩ (by decide) .nil)
end

/-! ### built-in functions and classes by their names -/
def SemC (K : PySem.W.Frag) (f : List D → Option D) (r : List V → Hp → VK → Prop) : Prop := ∀ c H vs ds z Q, Ho c H → AtL K c H vs ds → f ds = some z → (∀ v' H', Step 0 c H H' → At K c H' v' z → Q v' H') → r vs H Q
def eCB (f : List D → Option D) (a : WA) : WE := ⟨fun r R => a r fun ds => ∃ z, f ds = some z ∧ R z, a.n⟩
theorem sem_cb {K : PySem.W.Frag} {E : XK} {f : List D → Option D} {r : List V → Hp → VK → Prop} {a : WA} {ta : TA} {n : Nat} (h : SemC K f r) (ha : SemA K E n a ta) : SemE K E (eCB f a) (tCB r ta) := by
  intro c0 c ad H0 s H rr R Q cf bd hm k
  refine ha c0 c ad H0 s H rr _ _ cf bd hm fun ds vs H1 hx _ s1 a1 => ?_
  obtain ⟨z, e, hR⟩ := hx
  exact h c H1 vs ds z Q (cf.step s1).ho a1 e fun v' H' s2 a2 => k z v' H' hR (s1.trans s2) a2
section
variable {g : G} {e : Expr} {es : List Expr} {ma : WA} {x : Str} {p pos : Pos} {f : List D → Option D} {r : List V → Hp → VK → Prop}
theorem de_cb {id : String} (hc : ∀ y, g.Ok y → CallR (g.cx y) (.builtin id) r) (h : SemC g.K f r) (hm : g.mg x = none) (ha : DA g (e :: es) ma) (hv : bootBuiltins x = some (.builtin id) := by decide +kernel) (hg : g.sc.names.lookup x = some .globalImplicit := by rfl)
    (hn : x ≠ "__name__" := by decide) (hd : (x == ("__debug__" : Str)) = false := by decide) (he : ∀ env, starEach (e :: es) env = (false, eval e env) :: starEach es env := by intro _; rfl)
    (hpl : ∀ env, (backTo pos (starEach es env)).any (·.1) = false := by intro _; rfl) : DE g (.Call (.Name x p) (e :: es) [] pos) (eCB f ma) := by
  obtain ⟨t, q⟩ := ha
  exact ⟨fun E => tCB r (t E), fun y ok => ⟨pe_callB (hc y ok) (ok.gl hg) hm hv (q y ok).1 hn hd (he _) (hpl _), sem_cb h (q y ok).2⟩⟩
theorem de_ct {T : String} (hc : ∀ y, g.Ok y → CallR (g.cx y) (.type T) r) (h : SemC g.K f r) (hm : g.mg x = none) (ha : DA g (e :: es) ma) (hv : bootBuiltins x = some (.type T) := by decide +kernel) (hg : g.sc.names.lookup x = some .globalImplicit := by rfl)
    (hn : x ≠ "__name__" := by decide) (hd : (x == ("__debug__" : Str)) = false := by decide) (he : ∀ env, starEach (e :: es) env = (false, eval e env) :: starEach es env := by intro _; rfl)
    (hpl : ∀ env, (backTo pos (starEach es env)).any (·.1) = false := by intro _; rfl) : DE g (.Call (.Name x p) (e :: es) [] pos) (eCB f ma) := by
  obtain ⟨t, q⟩ := ha
  exact ⟨fun E => tCB r (t E), fun y ok => ⟨pe_callTy (hc y ok) (ok.gl hg) hm hv (q y ok).1 hn hd (he _) (hpl _), sem_cb h (q y ok).2⟩⟩
end
end DS
/-! DS3: defs and their calls, statements, what is walked, for, comprehensions. -/
namespace DS
open PySem PySem.Spec PyProof.Rows L2

/-! ### what a def promises -/
/-- a def's meaning, and how many draws it makes at most -/
structure WFn where
  f : List D → (D → Prop) → Prop
  n : Nat
instance : CoeFun WFn fun _ => List D → (D → Prop) → Prop := ⟨WFn.f⟩
def spW (K : PySem.W.Frag) (n : Nat) (F : WFn) : Sp := fun vs H Q _ => ∃ c ds R, Ho c H ∧ AtL K c H vs ds ∧ ds.length = n ∧ trn c.sd H + F.n ≤ most ∧ F ds R ∧ ∀ d v H', R d → Step F.n c H H' → At K c H' v d → Q v H'
structure FnW (P : Program) (w : World) (K : PySem.W.Frag) (mg : Str → Option Value) (base : Heap) (k : Nat) (x : Str) (n : Nat) (F : WFn) : Prop where
  ex : ∃ f fd ps, ps.length = n ∧ FnOk P w K mg base L2.CX0 k f fd ps (spW K n F) ∧ mg x = some (.ref f) ∧ PySem.W.keepIn K (.ref f) = true ∧ Binds K fd ps []
theorem FnW.mono {P : Program} {w : World} {K : PySem.W.Frag} {mg : Str → Option Value} {base : Heap} {j k : Nat} {x : Str} {n : Nat} {F : WFn} (h : FnW P w K mg base j x n F) (hj : j ≤ k) : FnW P w K mg base k x n F := by
  obtain ⟨f, fd, ps, l, F1, r⟩ := h.ex
  exact ⟨⟨f, fd, ps, l, F1.mono hj, r⟩⟩
/-- a def's meaning may be told otherwise -/
theorem FnW.imp {P : Program} {w : World} {K : PySem.W.Frag} {mg : Str → Option Value} {base : Heap} {k : Nat} {x : Str} {n : Nat} {F F' : WFn} (h : FnW P w K mg base k x n F) (hn : F.n ≤ F'.n) (hi : ∀ ds R, ds.length = n → F' ds R → F ds R) : FnW P w K mg base k x n F' := by
  obtain ⟨f, fd, ps, l, F1, r⟩ := h.ex
  refine ⟨⟨f, fd, ps, l, F1.imp fun vs H Q E ⟨c, ds, R, h1, h2, h3, hb, h4, h5⟩ => ⟨c, ds, R, h1, h2, h3, by omega, hi ds R h3 h4, fun d v H' q st => h5 d v H' q (st.mono hn)⟩, r⟩⟩
def eCall (F : WFn) (a : WA) : WE := ⟨fun r R => a r fun ds => F ds R, a.n + F.n⟩
theorem sem_call {K : PySem.W.Frag} {E : XK} {n : Nat} {F : WFn} {a : WA} {ta : TA} {X : XK} (ha : SemA K E n a ta) : SemE K E (eCall F a) (tCall (spW K n F) [] X ta) := by
  intro c0 c ad H0 s H rr R Q cf bd hm k
  refine ha c0 c ad H0 s H rr _ _ cf (bd1 bd) hm fun ds vs H1 hx hn s1 a1 => ?_
  have cf1 := cf.step s1
  show spW K n F (vs ++ []) H1 Q X
  rw [List.append_nil]
  exact ⟨c, ds, R, cf1.ho, a1, hn, bd2 bd s1.3, hx, fun d v H' hR s2 a2 => k d v H' hR (s1.trans s2) a2⟩
section
variable {g : G} {x : Str} {j : Nat} {F : WFn} {e : Expr} {es : List Expr} {ma : WA} {p pos : Pos}
theorem de_call (hf : FnW g.P g.w g.K g.mg g.base j x (e :: es).length F) (ha : DA g (e :: es) ma) (hj : j ≤ g.k := by exact Nat.le_of_ble_eq_true rfl) (hg : g.sc.names.lookup x = some .globalImplicit := by rfl)
    (hd : (x == ("__debug__" : Str)) = false := by decide) (he : ∀ env, starEach (e :: es) env = (false, eval e env) :: starEach es env := by intro _; rfl)
    (hpl : ∀ env, (backTo pos (starEach es env)).any (·.1) = false := by intro _; rfl) : DE g (.Call (.Name x p) (e :: es) [] pos) (eCall F ma) := by
  obtain ⟨t, q⟩ := ha
  obtain ⟨f, fd, ps, l, F1, hm, hk, hb⟩ := hf.ex
  exact ⟨fun E => tCall (spW g.K (e :: es).length F) [] L2.E0 (t E), fun y ok => ⟨pe_call (X := g.cx y) F1 (ok.room.mono hj) (ok.gl hg) hm hk hb .nil L2.pass0 (q y ok).1 hd (he _) (hpl _), sem_call (q y ok).2⟩⟩
theorem de_call0 (hf : FnW g.P g.w g.K g.mg g.base j x 0 F) (hj : j ≤ g.k := by exact Nat.le_of_ble_eq_true rfl) (hg : g.sc.names.lookup x = some .globalImplicit := by rfl)
    (hd : (x == ("__debug__" : Str)) = false := by decide) : DE g (.Call (.Name x p) [] [] pos) (eCall F aNil) := by
  obtain ⟨f, fd, ps, l, F1, hm, hk, hb⟩ := hf.ex
  exact ⟨fun E => tCall (spW g.K 0 F) [] L2.E0 tNil, fun y ok => ⟨pe_call0 (X := g.cx y) F1 (ok.room.mono hj) (ok.gl hg) hm hk hb .nil L2.pass0 hd, sem_call sem_nil⟩⟩
end

/-! ### a def's body -/
def startE (N : List Str) (ds : List D) : List Sl := ds.map .sh ++ List.replicate (N.length - ds.length) .un
def fnF (N : List Str) (m : WS) : WFn := ⟨fun ds R => m { nx := fun _ => R .non, rt := R } ⟨startE N ds, fun _ => False⟩, m.n⟩
theorem start_cf {K : PySem.W.Frag} {c : Co} {H : Hp} {E : XK} {N : List Str} {vs : List V} {ds : List D} {ew : Ex → Prop} (h : Ho c H) (a : AtL K c H vs ds) (hl : ds.length ≤ N.length) (hx : ExW K c H E ew) :
    Cf K c c (fun _ => 0) H E (start N vs) H ⟨startE N ds, ew⟩ where
  sd := rfl
  sg := rfl
  scl := rfl
  le := fun _ h => h
  st := Run.refl h.inv
  dom := h.dom
  dom0 := h.dom
  osd := h.osd
  osg := h.osg
  own := fun i x e o => by
    exfalso
    have e : (ds.map Sl.sh ++ List.replicate (N.length - ds.length) Sl.un)[i]? = some x := e
    have hm := List.mem_of_getElem? e
    rw [List.mem_append, List.mem_map, List.mem_replicate] at hm
    rcases hm with ⟨d, _, rfl⟩ | ⟨_, rfl⟩
    · exact o.elim
    · exact o.elim
  inj := fun i j x z e _ o => by
    exfalso
    have e : (ds.map Sl.sh ++ List.replicate (N.length - ds.length) Sl.un)[i]? = some x := e
    have hm := List.mem_of_getElem? e
    rw [List.mem_append, List.mem_map, List.mem_replicate] at hm
    rcases hm with ⟨d, _, rfl⟩ | ⟨_, rfl⟩
    · exact o.elim
    · exact o.elim
  sl := fun i x e => by
    have e : (ds.map Sl.sh ++ List.replicate (N.length - ds.length) Sl.un)[i]? = some x := e
    by_cases hi : i < ds.length
    · rw [List.getElem?_append_left (by simpa using hi), List.getElem?_map, List.getElem?_eq_getElem hi] at e
      cases e
      obtain ⟨v, e1, a1⟩ := a.some_of (List.getElem?_eq_getElem hi)
      have hv : i < vs.length := by rw [a.length]; exact hi
      have e2 : (start N vs)[i]? = some (some v) := by
        show (vs.map some ++ _)[i]? = _
        rw [List.getElem?_append_left (by simpa using hv), List.getElem?_map, e1]
        rfl
      rw [e2]
      exact .sh a1
    · rw [List.getElem?_append_right (by simpa using hi)] at e
      have hm := List.mem_of_getElem? e
      rw [List.mem_replicate] at hm
      rw [hm.2]
      exact .un
  len := by
    show (vs.map some ++ List.replicate (N.length - vs.length) none).length = (ds.map Sl.sh ++ List.replicate (N.length - ds.length) Sl.un).length
    simp [a.length]
  ex := hx
def gOf (P : Program) (w : World) (K : PySem.W.Frag) (mg : Str → Option Value) (base : Heap) (k : Nat) (N : List Str) (st : Stmt) (rs : Bool) : G := { P := P, w := w, K := K, mg := mg, base := base, k := k, N := N, sc := defScope st, fn := fun _ => true, rs := rs }
theorem fn_ok {P : Program} {w : World} {K : PySem.W.Frag} {mg : Str → Option Value} {base : Heap} {k : Nat} {x : Str} {st : Stmt} {f : Addr} {fd : FuncData} {N ps : List Str} {m : WS} (F : L2.Fun K x x st f fd) (S : FnScope N ps (defScope st)) (hp : ps.length ≤ N.length)
    (hb : DSs (gOf P w K mg base k N st false) (defBody st) m) : FnOk P w K mg base L2.CX0 (k + 1) f fd ps (spW K ps.length (fnF N m)) := by
  obtain ⟨t, p⟩ := hb
  refine F.ok S (fun vs H Q E ⟨c, ds, R, _, a, l, _⟩ => a.length.trans l) (fun cdv A outer s H vs Q E hr h => ?_)
  obtain ⟨c, ds, R, ho, a, l, bd, hF, k⟩ := h
  have ok : (gOf P w K mg base _ N st false).Ok { A := A.deeper (envOfC x (defScope st) s.heap.objs.size f cdv), s0 := s, H0 := H, env := envOfC x (defScope st) s.heap.objs.size f cdv, outer := outer, stack := envOfC x (defScope st) s.heap.objs.size f cdv :: outer, ex := [], pn := [], xe := fun _ _ => False, E := fun _ _ _ => True } :=
    ⟨rfl, hr, S.nd, PassesOwn.never, fun z => Bool.noConfusion z⟩
  refine ⟨t fun _ _ _ => True, (p _ ok).1, ?_⟩
  refine (p _ ok).2 c c (fun _ => 0) H (start N vs) H ⟨startE N ds, fun _ => False⟩ _ _ (start_cf ho a (by omega) fun x z => z.elim) bd hF ?_
  exact ⟨fun c' ad' s' H' r' _ le hR cf => k .non .non H' hR ⟨cf.st.1, cf.st.2, by rw [cf.sd] at le; exact le⟩ .non, fun _ _ _ _ _ _ _ z => z.elim, fun _ _ _ _ _ _ _ z => z.elim, fun d v H' hR s1 le a1 => k d v H' hR ⟨s1.1, s1.2, le⟩ a1⟩
theorem fnW_mk {P : Program} {w : World} {K : PySem.W.Frag} {mg : Str → Option Value} {base : Heap} {k : Nat} {x : Str} {st : Stmt} {f : Addr} {fd : FuncData} {N ps : List Str} {m : WS} (F : L2.Fun K x x st f fd) (S : FnScope N ps (defScope st)) (hp : ps.length ≤ N.length)
    (hm : mg x = some (.ref f)) (hbd : Binds K fd ps []) (hb : DSs (gOf P w K mg base k N st false) (defBody st) m) : FnW P w K mg base (k + 1) x ps.length (fnF N m) :=
  ⟨⟨f, fd, ps, rfl, fn_ok F S hp hb, hm, F.kp, hbd⟩⟩

/-! ### statements -/
def sNext : WS := ⟨fun W r => W.nx r, 0⟩
def sSeq (a b : WS) : WS := ⟨fun W r => a { W with nx := b W } r, a.n + b.n⟩
def sRet (m : WE) : WS := ⟨fun W r => m r W.rt, m.n⟩
def sRetN : WS := ⟨fun W _ => W.rt .non, 0⟩
def sIf (c : WT) (a b : WS) : WS := ⟨fun W r => c r fun k => if k = true then a W r else b W r, c.n + (a.n + b.n)⟩
def sDo (m : WE) : WS := ⟨fun W r => m r fun _ => W.nx r, m.n⟩
def Env.put (r : Env) (i : Nat) (d : D) : Env := { r with sl := r.sl.set i (.sh d) }
def sSet (i : Nat) (m : WE) : WS := ⟨fun W r => m r fun d => W.nx (r.put i d), m.n⟩
def sBrk : WS := ⟨fun W r => W.bk r, 0⟩
def sCnt : WS := ⟨fun W r => W.ct r, 0⟩
theorem Cf.put {K c0 c ad H0 E s H r} (h : Cf K c0 c ad H0 E s H r) {v : V} {d : D} (i : Nat) (a : At K c H v d) : Cf K c0 c ad H0 E (s.set i (some v)) H (r.put i d) where
  sd := h.sd
  sg := h.sg
  scl := h.scl
  le := h.le
  st := h.st
  dom := h.dom
  dom0 := h.dom0
  osd := h.osd
  osg := h.osg
  own := fun j x e o => by
    rw [show (r.put i d).sl = r.sl.set i (.sh d) from rfl, List.getElem?_set] at e
    split at e
    · split at e
      · cases e; exact o.elim
      · cases e
    · exact h.own j x e o
  inj := fun j l x z e e2 o o2 => by
    rw [show (r.put i d).sl = r.sl.set i (.sh d) from rfl, List.getElem?_set] at e e2
    split at e
    · split at e
      · cases e; exact o.elim
      · cases e
    · split at e2
      · split at e2
        · cases e2; exact o2.elim
        · cases e2
      · exact h.inj j l x z e e2 o o2
  sl := fun j x e => by
    rw [show (r.put i d).sl = r.sl.set i (.sh d) from rfl, List.getElem?_set] at e
    split at e
    · rename_i hij
      subst hij
      split at e
      · rename_i hl
        cases e
        rw [List.getElem?_set, if_pos rfl, if_pos (by rw [h.len]; exact hl)]
        exact .sh a
      · cases e
    · rename_i hij
      have q := h.sl j x e
      rw [List.getElem?_set, if_neg hij]
      exact q
  len := by
    show (s.set i (some v)).length = (r.sl.set i (.sh d)).length
    rw [List.length_set, List.length_set]
    exact h.len
  ex := h.ex
section
variable {K : PySem.W.Frag} {E : XK}
theorem sem_next : SemS K E sNext tNext := fun c0 c ad H0 s H r W X cf bd hm k => k.nx c ad s H r Evo.refl (Nat.le_add_right _ _) hm cf
theorem sem_seq {a b : WS} {ta tb : TS} (ha : SemS K E a ta) (hb : SemS K E b tb) : SemS K E (sSeq a b) (tSeq ta tb) := by
  intro c0 c ad H0 s H r W X cf bd hm k
  refine ha c0 c ad H0 s H r _ _ cf (bd1 bd) hm ⟨fun c' ad' s' H' r' e le hw cf' => ?_, fun c' ad' s' H' r' e le => k.bk c' ad' s' H' r' e (up1 le), fun c' ad' s' H' r' e le => k.ct c' ad' s' H' r' e (up1 le), fun d v H' q st le => k.rt d v H' q st (up1 le)⟩
  exact hb c0 c' ad' H0 s' H' r' W X cf' (bd2 bd le) hw (k.evo e (up2 le))
theorem sem_ret {m : WE} {t : TE} (h : SemE K E m t) : SemS K E (sRet m) (tRet t) := by
  intro c0 c ad H0 s H r W X cf bd hm k
  refine h c0 c ad H0 s H r _ _ cf bd hm fun d v H' hR s1 a1 => ?_
  have cf1 := cf.step s1
  exact k.rt d v H' hR cf1.st (by rw [← cf.sd]; exact s1.3) (a1.evo ⟨cf.sd.symm, fun b o e n => ⟨e, fun z => n (cf.le b z)⟩⟩)
theorem sem_retN : SemS K E sRetN tRetN := fun c0 c ad H0 s H r W X cf bd hm k => k.rt .non .non H hm cf.st (by rw [← cf.sd]; exact Nat.le_add_right _ _) .non
theorem sem_if {c : WT} {a b : WS} {tc : TT} {ta tb : TS} (hc : SemT K E c tc) (ha : SemS K E a ta) (hb : SemS K E b tb) : SemS K E (sIf c a b) (tIfS tc ta tb) := by
  intro c0 co ad H0 s H r W X cf bd hm k
  refine hc c0 co ad H0 s H r _ _ cf (bd1 bd) hm fun x H1 hx s1 => ?_
  cases x with
  | true =>
    rw [if_pos rfl] at hx ⊢
    exact ha c0 co ad H0 s H1 r W X (cf.step s1) (bd1 (bd2 bd s1.3)) hx (k.evo (cf.evo s1) (up3 s1.3))
  | false =>
    rw [if_neg Bool.false_ne_true] at hx ⊢
    exact hb c0 co ad H0 s H1 r W X (cf.step s1) (bdR (bd2 bd s1.3)) hx (k.evo (cf.evo s1) (up4 s1.3))
theorem sem_do {m : WE} {t : TE} (h : SemE K E m t) : SemS K E (sDo m) (tDrop t) := by
  intro c0 c ad H0 s H r W X cf bd hm k
  exact h c0 c ad H0 s H r _ _ cf bd hm fun d v H' hR s1 a1 => k.nx c ad s H' r (cf.evo s1) s1.3 hR (cf.step s1)
theorem sem_set {i : Nat} {m : WE} {t : TE} (h : SemE K E m t) : SemS K E (sSet i m) (tAsg t (gName i)) := by
  intro c0 c ad H0 s H r W X cf bd hm k
  exact h c0 c ad H0 s H r _ _ cf bd hm fun d v H' hR s1 a1 => k.nx c ad _ H' _ (cf.evo s1) s1.3 hR ((cf.step s1).put i a1)
def sPar (i j : Nat) (a : WA) : WS := ⟨fun W r => a r fun ds => ∃ d e, ds = [d, e] ∧ W.nx ((r.put i d).put j e), a.n⟩
theorem sem_par {i j n : Nat} {a : WA} {t : TA} (h : SemA K E n a t) : SemS K E (sPar i j a) (tPar i j t) := by
  intro c0 c ad H0 s H r W X cf bd hm k
  refine h c0 c ad H0 s H r _ _ cf bd hm fun ds vs H' hR _ s1 a1 => ?_
  obtain ⟨d, e, rfl, hR⟩ := hR
  cases a1 with
  | cons b1 b2 =>
    cases b2 with
    | cons b3 b4 =>
      cases b4
      exact ⟨_, _, rfl, k.nx c ad _ H' _ (cf.evo s1) s1.3 hR (((cf.step s1).put i b1).put j b3)⟩
end
section
variable {g : G} {st : Stmt} {rest : List Stmt} {a b : WS} {e : Expr} {m : WE} {pos pos' : Pos}
theorem ds_nil : DSs g [] sNext := ⟨fun _ => tNext, fun _ _ => ⟨pss_nil, sem_next⟩⟩
theorem ds_cons (h : DSt g st a) (h2 : DSs g rest b) : DSs g (st :: rest) (sSeq a b) :=
  let ⟨t, p⟩ := h; let ⟨t2, p2⟩ := h2; ⟨fun E => tSeq (t E) (t2 E), fun y ok => ⟨pss_cons (p y ok).1 (p2 y ok).1, sem_seq (p y ok).2 (p2 y ok).2⟩⟩
theorem ds_one (h : DSt g st a) : DSs g [st] a := let ⟨t, p⟩ := h; ⟨t, fun y ok => ⟨pss_one (p y ok).1, (p y ok).2⟩⟩
theorem ds_ret (h : DE g e m) : DSt g (.Return (some e) pos) (sRet m) := let ⟨t, p⟩ := h; ⟨fun E => tRet (t E), fun y ok => ⟨ps_ret (p y ok).1, sem_ret (p y ok).2⟩⟩
theorem ds_retN : DSt g (.Return none pos) sRetN := ⟨fun _ => tRetN, fun _ _ => ⟨ps_retN, sem_retN⟩⟩
theorem ds_pass : DSt g (.Pass pos) sNext := ⟨fun _ => tNext, fun _ _ => ⟨ps_pass, sem_next⟩⟩
theorem ds_brk : DSt g (.Break pos) sBrk := ⟨fun _ => tBreak, fun _ _ => ⟨ps_break, fun c0 c ad H0 s H r W X cf bd hm k => k.bk c ad s H r Evo.refl (Nat.le_add_right _ _) hm cf⟩⟩
theorem ds_cnt : DSt g (.Continue pos) sCnt := ⟨fun _ => tCont, fun _ _ => ⟨ps_continue, fun c0 c ad H0 s H r W X cf bd hm k => k.ct c ad s H r Evo.refl (Nat.le_add_right _ _) hm cf⟩⟩
theorem ds_if {c : Expr} {x z : List Stmt} {mc : WT} (hc : DT g c mc) (ha : DSs g x a) (hb : DSs g z b) : DSt g (.If c x z pos) (sIf mc a b) :=
  let ⟨tc, pc⟩ := hc; let ⟨t, p⟩ := ha; let ⟨t2, p2⟩ := hb; ⟨fun E => tIfS (tc E) (t E) (t2 E), fun y ok => ⟨ps_if (pc y ok).1 (p y ok).1 (p2 y ok).1, sem_if (pc y ok).2 (p y ok).2 (p2 y ok).2⟩⟩
theorem ds_do (h : DE g e m) (hs : ∀ env, swapsWith e none pos.line env = pure false := by intro _; rfl) : DSt g (.Expr e pos) (sDo m) :=
  let ⟨t, p⟩ := h; ⟨fun E => tDrop (t E), fun y ok => ⟨ps_expr (p y ok).1 (hs _), sem_do (p y ok).2⟩⟩
theorem G.Ok.loc {y : Dyn} (ok : g.Ok y) {x : Str} (h : g.sc.names.lookup x = some .local ∨ g.sc.names.lookup x = some .cell) : Loc (g.cx y).env.scope x := by
  show Loc y.env.scope x
  rw [ok.sc]
  exact h
theorem G.Ok.hf {y : Dyn} (ok : g.Ok y) {x : Str} (h : g.fn x = true ∨ g.sc.names.lookup x = some .local) : (g.cx y).fn x = true ∨ (g.cx y).env.scope.names.lookup x = some .local := by
  show g.fn x = true ∨ y.env.scope.names.lookup x = some .local
  rw [ok.sc]
  exact h
theorem ds_set (i : Nat) {x : Str} (he : DE g e m) (hi : g.N[i]? = some x := by rfl) (hx : g.sc.names.lookup x = some .local ∨ g.sc.names.lookup x = some .cell := by first | exact Or.inl rfl | exact Or.inr rfl)
    (hs : ∀ env, swapsWith e (some (.Name x pos')) pos.line env = pure false := by intro _; rfl) (hf : g.fn x = true ∨ g.sc.names.lookup x = some .local := by first | exact Or.inl rfl | exact Or.inr rfl) : DSt g (.Assign [.Name x pos'] e pos) (sSet i m) :=
  let ⟨t, p⟩ := he; ⟨fun E => tAsg (t E) (gName i), fun y ok => ⟨ps_set (X := g.cx y) ok.nd hi (ok.loc hx) (p y ok).1 (hs _) (ok.hf hf), sem_set (p y ok).2⟩⟩
theorem ds_par (i j : Nat) {x y : Str} {a b : Expr} {ma : WA} {px py pt : Pos} {kt k2 pt2} (ha : DA g [a, b] ma) (hij : i ≠ j := by decide) (hi : g.N[i]? = some x := by rfl) (hj : g.N[j]? = some y := by rfl)
    (hx : g.sc.names.lookup x = some .local := by rfl) (hy : g.sc.names.lookup y = some .local := by rfl)
    (hw : ∀ env : PySem.Env, env.scope = g.sc → swappedStores [.Tuple [.Name x px, .Name y py] kt pt] (.Tuple [a, b] k2 pt2) env = pure (some [x, y]) := by
      intro env h
      unfold swappedStores
      first | rfl | (simp only [Env.kindOf, Env.blockKind, h]; rfl) | (simp only [Env.kindOf, Env.blockKind, h]; decide +kernel))
    (hs : ∀ env, swapsWithSole [.Tuple [.Name x px, .Name y py] kt pt] (.Tuple [a, b] k2 pt2) pos.line env = pure false := by intro _; rfl) :
    DSt g (.Assign [.Tuple [.Name x px, .Name y py] kt pt] (.Tuple [a, b] k2 pt2) pos) (sPar i j ma) :=
  let ⟨t, p⟩ := ha; ⟨fun E => tPar i j (t E), fun z ok => ⟨ps_par (X := g.cx z) rfl ok.nd hi hj hij (by show z.env.scope.names.lookup x = _; rw [ok.sc]; exact hx) (by show z.env.scope.names.lookup y = _; rw [ok.sc]; exact hy) (p z ok).1 (hw _ ok.sc) (hs _), sem_par (p z ok).2⟩⟩
end
end DS
/-! DS4: what is walked, targets, for, comprehensions. -/
namespace DS
open PySem PySem.Spec PyProof.Rows L2

/-! ### what is walked -/
structure ItOk (K : PySem.W.Frag) (J : It) (ds : List D) (S : Co → Hp → Prop) : Prop where
  len : ds.length ≤ sizeLine
  evo : ∀ c H c' H', S c H → Evo c H c' H' → S c' H'
  goes : ∀ i c H, i < ds.length → S c H → J.go i H
  stops : ∀ c H, S c H → J.stop ds.length H
  ylds : ∀ i c H x H' d, ds[i]? = some d → S c H → Ho c H → J.yld i H x H' → Step 0 c H H' ∧ At K c H' x d
structure WI where
  f : Env → (List D → Prop) → Prop
  n : Nat
instance : CoeFun WI fun _ => Env → (List D → Prop) → Prop := ⟨WI.f⟩
def SemI (K : PySem.W.Frag) (E : XK) (m : WI) (t : TI) : Prop := ∀ c0 c ad H0 s H r R (Q : It → Hp → Prop), Cf K c0 c ad H0 E s H r → trn c.sd H + m.n ≤ most → m r R → (∀ ds J S H', R ds → Step m.n c H H' → ItOk K J ds S → S c H' → Q J H') → t s H Q
def DI (g : G) (tg e : Expr) (m : WI) : Prop := ∃ t : XK → TI, ∀ y, g.Ok y → PI (g.cx y) tg e (t y.E) ∧ SemI g.K y.E m (t y.E)
theorem it_list {K : PySem.W.Frag} {a : Addr} {ds : List D} (l : ds.length ≤ sizeLine) : ItOk K (Itl K a) ds (fun c H => ∃ xs, NL K c H a xs ∧ AtL K c H xs ds) where
  len := l
  evo := fun c H c' H' ⟨xs, h, r⟩ e => ⟨xs, h.evo e, r.evo e⟩
  goes := fun i c H hi ⟨xs, h, r⟩ => by
    have hi' : i < xs.length := by rw [r.length]; exact hi
    exact ⟨xs, xs[i], h.sq, List.getElem?_eq_getElem hi'⟩
  stops := fun c H ⟨xs, h, r⟩ => ⟨xs, h.sq, Nat.le_of_eq r.length⟩
  ylds := fun i c H x H' d e ⟨xs, h, r⟩ ho ⟨e1, e2⟩ => by
    subst e1
    exact ⟨Step.refl ho.inv, r.get (e2 xs h.sq) e⟩
theorem it_tup {K : PySem.W.Frag} {a : Addr} {ds : List D} (l : ds.length ≤ sizeLine) : ItOk K (Itt K a) ds (fun c H => ∃ xs, NT K c H a xs ∧ AtL K c H xs ds) where
  len := l
  evo := fun c H c' H' ⟨xs, h, r⟩ e => ⟨xs, h.evo e, r.evo e⟩
  goes := fun i c H hi ⟨xs, h, r⟩ => by
    have hi' : i < xs.length := by rw [r.length]; exact hi
    exact ⟨xs, xs[i], h.sq, List.getElem?_eq_getElem hi'⟩
  stops := fun c H ⟨xs, h, r⟩ => ⟨xs, h.sq, Nat.le_of_eq r.length⟩
  ylds := fun i c H x H' d e ⟨xs, h, r⟩ ho ⟨e1, e2⟩ => by
    subst e1
    exact ⟨Step.refl ho.inv, r.get (e2 xs h.sq) e⟩
/-- the ints below n -/
def upto (n : Nat) : List D := (List.range n).map fun k : Nat => D.int (k : Int)
theorem upto_get {n i : Nat} {d : D} (e : (upto n)[i]? = some d) : d = .int (i : Int) ∧ i < n := by
  unfold upto at e
  rw [List.getElem?_map] at e
  by_cases h : i < n
  · rw [List.getElem?_range h] at e
    cases e
    exact ⟨rfl, h⟩
  · rw [List.getElem?_eq_none (by simpa using h)] at e
    cases e
theorem upto_len (n : Nat) : (upto n).length = n := by simp [upto]
theorem it_range {K : PySem.W.Frag} {n : Nat} (l : n ≤ sizeLine) : ItOk K (Itr 0 n) (upto n) (fun _ _ => True) where
  len := by rw [upto_len]; exact l
  evo := fun _ _ _ _ _ _ => trivial
  goes := fun i c H hi _ => by rw [upto_len] at hi; exact hi
  stops := fun c H _ => by rw [upto_len]; exact Nat.le_refl _
  ylds := fun i c H x H' d e _ ho ⟨e1, e2⟩ => by
    subst e1
    obtain ⟨rfl, _⟩ := upto_get e
    rw [e2, Int.zero_add]
    exact ⟨Step.refl ho.inv, .int _⟩
/-- a text's signs -/
def signs (z : Str) : List D := z.cps.toList.map fun c => D.str ⟨#[c]⟩
theorem it_str {K : PySem.W.Frag} {z : Str} (l : z.length ≤ sizeLine) : ItOk K (Its z) (signs z) (fun _ _ => True) where
  len := by unfold signs; rw [List.length_map, Array.length_toList]; exact l
  evo := fun _ _ _ _ _ _ => trivial
  goes := fun i c H hi _ => by unfold signs at hi; rw [List.length_map, Array.length_toList] at hi; exact hi
  stops := fun c H _ => by unfold signs; rw [List.length_map, Array.length_toList]; exact Nat.le_refl _
  ylds := fun i c H x H' d e _ ho ⟨e1, q, e2, e3⟩ => by
    subst e1
    unfold signs at e
    rw [List.getElem?_map, Array.getElem?_toList, e2] at e
    cases e
    rw [e3]
    exact ⟨Step.refl ho.inv, .str _⟩
/-- a list or a tuple, whichever it is -/
def iSeqT (K : PySem.W.Frag) (tl : TE) : TI := fun s H R => tl s H fun x H1 => ∃ a, x = .ref a ∧ ((∃ xs, SqL K H1 a xs ∧ R (Itl K a) H1) ∨ (∃ xs, SqT K H1 a xs ∧ R (Itt K a) H1))
theorem pi_seqT {X : Cx} {tg l : Expr} {tl : TE} (hl : PE X l tl) : PI X tg l (iSeqT X.K tl) := by
  refine ⟨fun pins s σ H R I h => ?_⟩
  refine thn (hl.run pins s σ H _ I h) fun v s1 ⟨x, H1, I1, r1, q1⟩ => ?_
  obtain ⟨a, e, ⟨xs, hq, q⟩ | ⟨xs, hq, q⟩⟩ := q1
  · subst e
    cases r1
    obtain ⟨its, rv, p, hz⟩ := I1.list hq
    refine wpAny_pyIter_list p.isList ?_
    refine ⟨s1.heap.objs.size, [s1.heap.objs.size], _, _, H1, rfl, I1.kept (t' := s1.toks) fun b o e => Heap.get?_push_of_some _ e, turn_list a _, ⟨_, Heap.get?_push_size _ rfl, rfl, rfl⟩, fun b hb => ?_, q⟩
    have e : b = s1.heap.objs.size := by simpa using hb
    subst e
    exact I1.fpOk (Nat.le_refl _) (I1.hok.fresh (Nat.le_refl _))
  · subst e
    cases r1
    obtain ⟨its, rv, p, hz⟩ := I1.tuple hq
    refine wpAny_pyIter_tuple (show s1.heap.IsTuple a its.toArray from p) ?_
    refine ⟨s1.heap.objs.size, [s1.heap.objs.size], _, _, H1, rfl, I1.kept (t' := s1.toks) fun b o e => Heap.get?_push_of_some _ e, turn_tuple a _, ⟨_, Heap.get?_push_size _ rfl, rfl, rfl⟩, fun b hb => ?_, q⟩
    have e : b = s1.heap.objs.size := by simpa using hb
    subst e
    exact I1.fpOk (Nat.le_refl _) (I1.hok.fresh (Nat.le_refl _))
def items : D → Option (List D)
  | .lst ds => some ds
  | .tup ds => some ds
  | _ => none
def iSeq (m : WE) : WI := ⟨fun r R => m r fun d => ∃ ds, items d = some ds ∧ R ds, m.n⟩
def iRange (m : WA) : WI := ⟨fun r R => m r fun ds => ∃ n : Int, ds = [.int n] ∧ -(2 ^ 62) ≤ n ∧ n.toNat ≤ sizeLine ∧ R (upto n.toNat), m.n⟩
def iSigns (m : WE) : WI := ⟨fun r R => m r fun d => ∃ z : Str, d = .str z ∧ z.length ≤ sizeLine ∧ R (signs z), m.n⟩
section
variable {g : G} {tg e : Expr} {m : WE} {ma : WA} {p pos : Pos}
theorem di_seq (h : DE g e m) : DI g tg e (iSeq m) := by
  obtain ⟨t, q⟩ := h
  refine ⟨fun E => iSeqT g.K (t E), fun y ok => ⟨pi_seqT (q y ok).1, ?_⟩⟩
  intro c0 c ad H0 s H r R Q cf bd hm k
  refine (q y ok).2 c0 c ad H0 s H r _ _ cf bd hm fun d v H' hR s1 a1 => ?_
  obtain ⟨ds, e1, hR⟩ := hR
  cases a1 with
  | lst h l r1 =>
    cases e1
    exact ⟨_, rfl, .inl ⟨_, h.sq, k _ _ _ H' hR s1 (it_list (by rw [← r1.length]; exact l)) ⟨_, h, r1⟩⟩⟩
  | tup h l r1 =>
    cases e1
    exact ⟨_, rfl, .inr ⟨_, h.sq, k _ _ _ H' hR s1 (it_tup (by rw [← r1.length]; exact l)) ⟨_, h, r1⟩⟩⟩
  | non => cases e1
  | bl b => cases e1
  | int b => cases e1
  | str b => cases e1
  | ty b => cases e1
  | ref b => cases e1
  | st => cases e1
  | dic _ _ _ => cases e1
theorem di_range (hm : g.mg "range" = none) (h : DA g [e] ma) (hg : g.sc.names.lookup ("range" : Str) = some .globalImplicit := by rfl) (hs : ∀ env, starEach [e] env = [(false, eval e env)] := by intro _; rfl) : DI g tg (.Call (.Name "range" p) [e] [] pos) (iRange ma) := by
  obtain ⟨t, q⟩ := h
  refine ⟨fun E => iRng1 (t E), fun y ok => ⟨pi_range1 (X := g.cx y) (ok.gl hg) hm (q y ok).1 (hs _), ?_⟩⟩
  intro c0 c ad H0 s H r R Q cf bd hm k
  refine (q y ok).2 c0 c ad H0 s H r _ _ cf bd hm fun ds vs H' hR _ s1 a1 => ?_
  obtain ⟨n, rfl, n1, n2, hR⟩ := hR
  cases a1 with
  | cons b1 b2 =>
    cases b2
    cases b1
    refine ⟨n, rfl, n1, ?_, k _ _ _ H' hR s1 (it_range n2) trivial⟩
    have : sizeLine = 16777216 := sizeLine_eq
    omega
theorem di_str (h : DE g e m) : DI g tg e (iSigns m) := by
  obtain ⟨t, q⟩ := h
  refine ⟨fun E => iStr (t E), fun y ok => ⟨pi_str (q y ok).1, ?_⟩⟩
  intro c0 c ad H0 s H r R Q cf bd hm k
  refine (q y ok).2 c0 c ad H0 s H r _ _ cf bd hm fun d v H' hR s1 a1 => ?_
  obtain ⟨z, rfl, l, hR⟩ := hR
  cases a1
  exact ⟨z, rfl, k _ _ _ H' hR s1 (it_str l) trivial⟩
end

/-! ### targets -/
abbrev WG := D → Env → (Env → Prop) → Prop
def SemG (K : PySem.W.Frag) (E : XK) (m : WG) (ws : List Nat) (t : TG) : Prop := ∀ c0 c ad H0 s H r v d R (Q : L2.St → Hp → Prop), Cf K c0 c ad H0 E s H r → At K c H v d → m d r R →
  (∀ s' r', R r' → Cf K c0 c ad H0 E s' H r' → (∀ vs : List Nat, (∀ i ∈ ws, i ∈ vs) → wipe s' vs = wipe s vs) → (∀ (j : Nat) (z : Sl), r'.sl[j]? = some z → z.own → r.sl[j]? = some z) → Q s' H) → t v s H Q
def DG (g : G) (tg : Expr) (m : WG) (ws : List Nat) : Prop := ∃ t : XK → TG, ∀ y, g.Ok y → PG (g.cx y) tg (t y.E) ∧ SemG g.K y.E m ws (t y.E)
def gN (i : Nat) : WG := fun d r R => R (r.put i d)
theorem wipe_set {i : Nat} {x : Option V} : ∀ {vs : List Nat} {s : L2.St}, i ∈ vs → wipe (s.set i x) vs = wipe s vs
  | [], _, h => by cases h
  | v :: vs, s, h => by
    unfold wipe
    by_cases e : i = v
    · subst e
      by_cases h2 : i ∈ vs
      · rw [wipe_set h2]
      · have : ∀ (vs : List Nat) (s : L2.St), i ∉ vs → wipe (s.set i x) vs = (wipe s vs).set i x := by
          intro vs
          induction vs with
          | nil => intro s _; rfl
          | cons u us ih =>
            intro s hn
            have h1 : i ≠ u := fun z => hn (z ▸ List.mem_cons_self)
            have h2 : i ∉ us := fun z => hn (List.mem_cons_of_mem _ z)
            unfold wipe
            rw [ih s h2, List.set_comm _ _ h1]
        rw [this vs s h2, List.set_set]
    · have h2 : i ∈ vs := by
        rcases List.mem_cons.mp h with z | z
        · exact absurd z e
        · exact z
      rw [wipe_set h2]
theorem put_own {r : Env} {i j : Nat} {d : D} {z : Sl} (e : (r.put i d).sl[j]? = some z) (o : z.own) : r.sl[j]? = some z := by
  rw [show (r.put i d).sl = r.sl.set i (.sh d) from rfl, List.getElem?_set] at e
  split at e
  · split at e
    · cases e; exact o.elim
    · cases e
  · exact e
theorem dg_name {g : G} (i : Nat) {x : Str} {pos : Pos} (hi : g.N[i]? = some x := by rfl) (hx : g.sc.names.lookup x = some .local ∨ g.sc.names.lookup x = some .cell := by first | exact Or.inl rfl | exact Or.inr rfl)
    (hf : g.fn x = true ∨ g.sc.names.lookup x = some .local := by first | exact Or.inl rfl | exact Or.inr rfl) : DG g (.Name x pos) (gN i) [i] :=
  ⟨fun _ => gName i, fun y ok => ⟨pg_name (X := g.cx y) ok.nd hi (ok.loc hx) (ok.hf hf), fun c0 c ad H0 s H r v d R Q cf a hm k => k _ _ hm (cf.put i a) (fun vs hv => wipe_set (hv i (by simp))) fun j z e o => put_own e o⟩⟩
/-- two names -/
def gP (i j : Nat) : WG := fun d r R => ∃ x y, d = .tup [x, y] ∧ R ((r.put i x).put j y)
theorem dg_pair {g : G} (i j : Nat) {x y : Str} {p1 p2 pos : Pos} {k : Nat} (hi : g.N[i]? = some x := by rfl) (hj : g.N[j]? = some y := by rfl) (hx : g.sc.names.lookup x = some .local ∨ g.sc.names.lookup x = some .cell := by first | exact Or.inl rfl | exact Or.inr rfl)
    (hy : g.sc.names.lookup y = some .local ∨ g.sc.names.lookup y = some .cell := by first | exact Or.inl rfl | exact Or.inr rfl) (hf : g.fn x = true ∨ g.sc.names.lookup x = some .local := by first | exact Or.inl rfl | exact Or.inr rfl)
    (hf2 : g.fn y = true ∨ g.sc.names.lookup y = some .local := by first | exact Or.inl rfl | exact Or.inr rfl) : DG g (.Tuple [.Name x p1, .Name y p2] k pos) (gP i j) [i, j] := by
  refine ⟨fun _ => gTup g.K 2 (gCons (gName i) (gCons (gName j) gNil)), fun z ok => ⟨pg_tup rfl (pgs_cons (pg_name (X := g.cx z) ok.nd hi (ok.loc hx) (ok.hf hf)) (pgs_cons (pg_name (X := g.cx z) ok.nd hj (ok.loc hy) (ok.hf hf2)) pgs_nil)), ?_⟩⟩
  intro c0 c ad H0 s H r v d R Q cf a hm k
  obtain ⟨d1, d2, rfl, hR⟩ := hm
  cases a with
  | tup h l r1 =>
    cases r1 with
    | cons b1 b2 =>
      cases b2 with
      | cons b3 b4 =>
        cases b4
        refine ⟨_, _, rfl, h.sq, rfl, _, _, rfl, _, _, rfl, rfl, k _ _ hR ((cf.put i b1).put j b3) (fun vs hv => ?_) fun j z e o => put_own (put_own e o) o⟩
        rw [wipe_set (hv j (by simp)), wipe_set (hv i (by simp))]

/-! ### for -/
def forW (mg : WG) (mb : WS) (W : WEnds) : List D → Env → Prop
  | [], r => W.nx r
  | d :: ds, r => mg d r fun r1 => mb { nx := fun r' => forW mg mb W ds r', ct := fun r' => forW mg mb W ds r', bk := W.nx, rt := W.rt } r1
def sFor (mi : WI) (mg : WG) (mb : WS) : WS := ⟨fun W r => mi r fun ds => forW mg mb W ds r, mi.n + sizeLine * mb.n⟩
theorem sem_for {K : PySem.W.Frag} {E : XK} {mi : WI} {mg : WG} {mb : WS} {ws : List Nat} {wi : TI} {gt : TG} {tb : TS} (hi : SemI K E mi wi) (hg : SemG K E mg ws gt) (hb : SemS K E mb tb) : SemS K E (sFor mi mg mb) (tFor wi gt tb) := by
  intro c0 c ad H0 s H r W X cf bd hm k
  refine hi c0 c ad H0 s H r _ _ cf (bd1 bd) hm fun ds J S H1 hR s1 I hS => ?_
  have cf1 := cf.step s1
  have s1l := s1.3
  have hl := I.len
  have bd' : trn c.sd H + (mi.n + sizeLine * mb.n) ≤ most := bd
  have kk : ∀ i, i ≤ ds.length → trn c.sd H1 + i * mb.n ≤ trn c.sd H + (mi.n + sizeLine * mb.n) := fun i hi => by
    have : i * mb.n ≤ sizeLine * mb.n := Nat.mul_le_mul_right _ (by omega)
    omega
  refine ⟨fun i m σ H2 => m = ds.length - i ∧ i ≤ ds.length ∧ ∃ c' ad' r', Evo c H c' H2 ∧ trn c'.sd H2 ≤ trn c.sd H1 + i * mb.n ∧ Cf K c0 c' ad' H0 E σ H2 r' ∧ S c' H2 ∧ forW mg mb W (ds.drop i) r', ⟨ds.length, by simp, Nat.zero_le _, c, ad, r, cf.evo s1, Nat.le_add_right _ _, cf1, hS, hR⟩, ?_⟩
  rintro i m σ H2 ⟨rfl, hle, c', ad', r', ev, le, cf2, hS2, hW⟩
  by_cases hlt : i < ds.length
  · refine .inr ⟨I.goes i c' H2 hlt hS2, fun σ' H' => ∃ c'' ad'' r'', Evo c H c'' H' ∧ trn c''.sd H' ≤ trn c.sd H1 + (i + 1) * mb.n ∧ Cf K c0 c'' ad'' H0 E σ' H' r'' ∧ S c'' H' ∧ forW mg mb W (ds.drop (i + 1)) r'', fun σ' H' q => ⟨ds.length - (i + 1), by omega, rfl, hlt, q⟩, fun x H3 y => ?_⟩
    have ed := List.drop_eq_getElem_cons hlt
    rw [ed] at hW
    obtain ⟨s3, a3⟩ := I.ylds i c' H2 x H3 ds[i] (List.getElem?_eq_getElem hlt) hS2 cf2.ho y
    have cf3 := cf2.step s3
    have e3 := cf2.evo s3
    have s3l := s3.3
    have k1 := kk (i + 1) hlt
    have k2 : (i + 1) * mb.n = i * mb.n + mb.n := Nat.succ_mul i mb.n
    refine hg c0 c' ad' H0 σ H3 r' x ds[i] _ _ cf3 a3 hW fun s' r'' hb' cf4 _ _ => ?_
    refine hb c0 c' ad' H0 s' H3 r'' _ _ cf4 (by omega) hb' ?_
    exact ⟨fun c5 ad5 s5 H5 r5 e5 l5 hw5 cf5 => ⟨c5, ad5, r5, (ev.trans e3).trans e5, by omega, cf5, I.evo _ _ _ _ hS2 (e3.trans e5), hw5⟩, fun c5 ad5 s5 H5 r5 e5 l5 hw5 cf5 => k.nx c5 ad5 s5 H5 r5 ((ev.trans e3).trans e5) (show _ ≤ trn c.sd H + (mi.n + sizeLine * mb.n) by omega) hw5 cf5,
      fun c5 ad5 s5 H5 r5 e5 l5 hw5 cf5 => ⟨c5, ad5, r5, (ev.trans e3).trans e5, by omega, cf5, I.evo _ _ _ _ hS2 (e3.trans e5), hw5⟩, fun d v H' q st l5 => k.rt d v H' q st (show _ ≤ trn c.sd H + (mi.n + sizeLine * mb.n) by omega)⟩
  · have e : i = ds.length := by omega
    subst e
    rw [List.drop_length] at hW
    exact .inl ⟨I.stops c' H2 hS2, k.nx c' ad' σ H2 r' ev (Nat.le_trans le (kk _ hle)) hW cf2⟩
theorem ds_for {g : G} {tg iter : Expr} {body : List Stmt} {mi : WI} {mg : WG} {ws : List Nat} {mb : WS} {pos : Pos} (hi : DI g tg iter mi) (hg : DG g tg mg ws) (hb : DSs g body mb) (hs : ∀ env x, foldedSetIterable iter env x = pure x := by intro _ _; rfl) :
    DSt g (.For tg iter body [] pos) (sFor mi mg mb) := by
  obtain ⟨ti, pi⟩ := hi
  obtain ⟨tt, pg⟩ := hg
  obtain ⟨tb, pb⟩ := hb
  exact ⟨fun E => tFor (ti E) (tt E) (tb E), fun y ok => ⟨ps_for ok.po rfl (pi y ok).1 (pg y ok).1 (pb y ok).1 (hs _), sem_for (pi y ok).2 (pg y ok).2 (pb y ok).2⟩⟩

/-! ### comprehensions -/
def wipeL (l : List Sl) : List Nat → List Sl
  | [] => l
  | v :: vs => (wipeL l vs).set v .un
def wipeE (r : Env) (vs : List Nat) : Env := { sl := wipeL r.sl vs, ew := fun _ => False }
theorem wipeL_length (l : List Sl) : ∀ vs : List Nat, (wipeL l vs).length = l.length
  | [] => rfl
  | v :: vs => by unfold wipeL; rw [List.length_set, wipeL_length l vs]
theorem wipeL_get {l : List Sl} {i : Nat} {x : Sl} : ∀ {vs : List Nat}, (wipeL l vs)[i]? = some x → x = .un ∨ (l[i]? = some x ∧ i ∉ vs)
  | [], h => .inr ⟨h, by simp⟩
  | v :: vs, h => by
    unfold wipeL at h
    rw [List.getElem?_set] at h
    split at h
    · split at h
      · cases h; exact .inl rfl
      · cases h
    · rename_i hv
      rcases wipeL_get h with z | ⟨z, n⟩
      · exact .inl z
      · exact .inr ⟨z, fun q => (List.mem_cons.mp q).elim (fun q => hv q.symm) n⟩
theorem wipe_get {s : L2.St} {i : Nat} : ∀ {vs : List Nat}, i ∉ vs → (wipe s vs)[i]? = s[i]?
  | [], _ => rfl
  | v :: vs, h => by
    unfold wipe
    rw [List.getElem?_set, if_neg (fun e => h (by rw [← e]; exact List.mem_cons_self)), wipe_get fun z => h (List.mem_cons_of_mem _ z)]
theorem Cf.wipe {K : PySem.W.Frag} {c0 c : Co} {ad : Nat → Addr} {H0 : Hp} {E : XK} {s : L2.St} {H : Hp} {r : Env} (h : Cf K c0 c ad H0 E s H r) (vs : List Nat) : Cf K c0 c ad H0 E (wipe s vs) H (wipeE r vs) where
  sd := h.sd
  sg := h.sg
  scl := h.scl
  le := h.le
  st := h.st
  dom := h.dom
  dom0 := h.dom0
  osd := h.osd
  osg := h.osg
  own := fun i x e o => by
    rcases wipeL_get e with z | ⟨z, _⟩
    · subst z; exact o.elim
    · exact h.own i x z o
  inj := fun i j x w e e2 o o2 => by
    rcases wipeL_get e with z | ⟨z, _⟩
    · subst z; exact o.elim
    · rcases wipeL_get e2 with z2 | ⟨z2, _⟩
      · subst z2; exact o2.elim
      · exact h.inj i j x w z z2 o o2
  sl := fun i x e => by
    rcases wipeL_get e with z | ⟨z, n⟩
    · subst z; exact .un
    · have q := h.sl i x z
      rw [wipe_get n]
      exact q
  len := by rw [wipe_length]; show s.length = (wipeL r.sl vs).length; rw [wipeL_length]; exact h.len
  ex := fun x z => z.elim
/-- one more object that may be changed: a new one -/
def Co.with (c : Co) (p : Addr) : Co := { c with O := fun b => c.O b ∨ b = p }
theorem evo_with {c : Co} {H : Hp} {p : Addr} {o : HO} (hp : H p = none) : Evo c H (c.with p) (upd H p o) :=
  ⟨rfl, fun b u e n => ⟨by rw [upd_ne (ne_of_none e hp)]; exact e, fun z => z.elim n fun z => ne_of_none e hp z⟩⟩
theorem evo_less {c : Co} {H : Hp} {p : Addr} : Evo (c.with p) H c H := ⟨rfl, fun b u e n => ⟨e, fun z => n (.inl z)⟩⟩
theorem Cf.with {K : PySem.W.Frag} {c0 c : Co} {ad : Nat → Addr} {H0 : Hp} {E : XK} {s : L2.St} {H : Hp} {r : Env} (h : Cf K c0 c ad H0 E s H r) {p : Addr} {o : HO} (hp : H p = none) : Cf K c0 (c.with p) ad H0 E s (upd H p o) r := by
  have q := h.step (Step.new (n := 0) h.inv hp (o := o))
  exact { sd := h.sd, sg := h.sg, scl := h.scl, dom0 := h.dom0, le := fun b hb => .inl (h.le b hb), st := q.st, osd := .inl h.osd, osg := .inl h.osg, inj := h.inj, len := h.len, ex := h.ex
          dom := fun b hb => hb.elim (q.dom b) fun z => ⟨o, by rw [z]; exact upd_same⟩
          own := fun i x e o => ⟨.inl (h.own i x e o).1, (h.own i x e o).2⟩
          sl := fun i x e => (h.sl i x e).evo (evo_with hp) fun _ u z => by rw [upd_ne (ne_of_none z hp)]; exact z }
/-- the list that grows, at p -/
theorem Cf.grow {K : PySem.W.Frag} {c0 c : Co} {ad : Nat → Addr} {H0 : Hp} {E : XK} {s : L2.St} {H : Hp} {r : Env} {p : Addr} (h : Cf K c0 (c.with p) ad H0 E s H r) {o o' : HO} (hp : H p = some o) (h0 : H0 p = none) (h1 : p ≠ c.sd) (h2 : p ≠ c.sg) (h3 : p ≠ c.sl) (hown : ∀ i x, r.sl[i]? = some x → x.own → ad i ≠ p) :
    Cf K c0 (c.with p) ad H0 E s (upd H p o') r ∧ Evo (c.with p) H (c.with p) (upd H p o') := by
  have ev : Evo (c.with p) H (c.with p) (upd H p o') := ⟨rfl, fun b u e n => ⟨by rw [upd_ne fun z => n (.inr z)]; exact e, n⟩⟩
  refine ⟨{ sd := h.sd, sg := h.sg, scl := h.scl, dom0 := h.dom0, le := h.le, osd := h.osd, osg := h.osg, inj := h.inj, len := h.len, ex := h.ex, own := h.own, st := ?_, dom := ?_, sl := ?_ }, ev⟩
  · obtain ⟨⟨g, cl, l, t, e1, e2, e3, q⟩, k⟩ := h.st
    have n1 : c0.sd ≠ p := by rw [← h.sd]; exact h1.symm
    have n2 : c0.sg ≠ p := by rw [← h.sg]; exact h2.symm
    have n3 : c0.sl ≠ p := by rw [← h.scl]; exact h3.symm
    refine ⟨⟨g, cl, l, t, by rw [upd_ne n1]; exact e1, by rw [upd_ne n2]; exact e2, by rw [upd_ne n3]; exact e3, q⟩, fun b u e m1 m2 => ?_⟩
    rw [upd_ne (ne_of_none e h0)]
    exact k b u e m1 m2
  · intro b hb
    by_cases e : b = p
    · exact ⟨o', by rw [e]; exact upd_same⟩
    · rw [upd_ne e]; exact h.dom b hb
  · intro i x e
    exact (h.sl i x e).evo ev fun o u z => by rw [upd_ne (hown i x e o)]; exact z
def lcW (mg : WG) (mc : WT) (me : WE) (r : Env) (k : List D → Prop) : List D → List D → Prop
  | [], out => k out
  | d :: ds, out => mg d r fun r1 => mc r1 fun b => if b = true then me r1 fun z => lcW mg mc me r k ds (out ++ [z]) else lcW mg mc me r k ds out
def eLc (mi : WI) (mg : WG) (mc : WT) (me : WE) (vs : List Nat) : WE := ⟨fun r R => mi r fun ds => lcW mg mc me (wipeE r vs) (fun out => R (.lst out)) ds [], mi.n + sizeLine * (mc.n + me.n)⟩
def cYes : WT := ⟨fun _ R => R true, 0⟩
def G.blk (g : G) (scope : Scope) : G := { g with sc := relS scope g.sc, fn := fun x => scope.names.lookup x == some .cell, rs := false }
def DTs (g : G) (ifs : List Expr) (m : WT) : Prop := ∃ t : XK → TT, ∀ y, g.Ok y → PTs (g.cx y) ifs (t y.E) ∧ SemT g.K y.E m (t y.E)
theorem dts_nil {g : G} : DTs g [] cYes := ⟨fun _ => tYes, fun y ok => ⟨pts_nil, fun c0 c ad H0 s H r R Q cf bd hm k => k true H hm (Step.refl cf.inv)⟩⟩
theorem dts_one {g : G} {e : Expr} {m : WT} (h : DT g e m) : DTs g [e] m := let ⟨t, p⟩ := h; ⟨t, fun y ok => ⟨pts_one (p y ok).1, (p y ok).2⟩⟩
/-- an expression that makes a new list: it lies apart -/
structure WF where
  f : Env → (Sl → Prop) → Prop
  n : Nat
instance : CoeFun WF fun _ => Env → (Sl → Prop) → Prop := ⟨WF.f⟩
def SemF (K : PySem.W.Frag) (E : XK) (m : WF) (t : TE) : Prop := ∀ c0 c ad H0 s H r R Q, Cf K c0 c ad H0 E s H r → trn c.sd H + m.n ≤ most → m r R → (∀ x p H', R x → x.own → H p = none → Step m.n c H H' → ObAt K (c.with p) H' p x → Q (.ref p) H') → t s H Q
def fLc (mi : WI) (mg : WG) (mc : WT) (me : WE) (vs : List Nat) : WF := ⟨fun r R => mi r fun ds => lcW mg mc me (wipeE r vs) (fun out => R (.ol out)) ds [], mi.n + sizeLine * (mc.n + me.n)⟩
theorem wipe_idem (s : L2.St) (vs : List Nat) : L2.wipe (L2.wipe s vs) vs = L2.wipe s vs := by
  have key : ∀ (l : List Nat) (u : L2.St), (∀ j ∈ l, ∀ q, u[j]? = some q → q = none) → L2.wipe u l = u := by
    intro l
    induction l with
    | nil => intro u _; rfl
    | cons j js ih =>
      intro u hu
      unfold L2.wipe
      rw [ih u fun a ha => hu a (List.mem_cons_of_mem _ ha)]
      refine List.ext_getElem? fun b => ?_
      rw [List.getElem?_set]
      split
      · rename_i hjb
        subst hjb
        split
        · rename_i hl
          rw [List.getElem?_eq_getElem hl]
          exact congrArg some (hu j List.mem_cons_self _ (List.getElem?_eq_getElem hl)).symm
        · rename_i hl
          rw [List.getElem?_eq_none (by omega)]
      · rfl
  refine key vs _ fun j hj q hq => ?_
  cases q with
  | none => rfl
  | some q => exact absurd hj (wipe_some hq).2
theorem sem_flc {K : PySem.W.Frag} {E : XK} {mi : WI} {mg : WG} {mc : WT} {me : WE} {ws vs : List Nat} {wi : TI} {gt : TG} {tt : TT} {te : TE} (hv : ∀ i ∈ ws, i ∈ vs) (hi : SemI K E mi wi) (hg : SemG K E mg ws gt) (ht : SemT K E mc tt) (he : SemE K E me te) :
    SemF K E (fLc mi mg mc me vs) (tLc wi gt tt te vs) := by
  intro c0 c ad H0 s H r R Q cf bd hm k
  refine hi c0 c ad H0 s H r _ _ cf (bd1 bd) hm fun ds J S H1 hR s1 I hS => ?_
  have cf1 := cf.step s1
  have s1l := s1.3
  have hl := I.len
  have bd' : trn c.sd H + (mi.n + sizeLine * (mc.n + me.n)) ≤ most := bd
  have kk : ∀ i, i ≤ ds.length → trn c.sd H1 + i * (mc.n + me.n) ≤ trn c.sd H + (mi.n + sizeLine * (mc.n + me.n)) := fun i hi => by
    have : i * (mc.n + me.n) ≤ sizeLine * (mc.n + me.n) := Nat.mul_le_mul_right _ (by omega)
    omega
  intro p hp
  have h0p : H0 p = none := cf1.st.free0 hp
  obtain ⟨g0, cl0, l0, t0, z1, z2, z3, _⟩ := cf1.inv
  have n1 : p ≠ c.sd := fun z => by rw [← z, hp] at z1; cases z1
  have n2 : p ≠ c.sg := fun z => by rw [← z, hp] at z2; cases z2
  have n3 : p ≠ c.sl := fun z => by rw [← z, hp] at z3; cases z3
  have hown : ∀ (i : Nat) (x : Sl), (wipeE r vs).sl[i]? = some x → x.own → ad i ≠ p := fun i x e o z => by
    rcases wipeL_get e with q | ⟨q, _⟩
    · subst q; exact o.elim
    · obtain ⟨u, q⟩ := cf1.dom _ (cf1.own i x q o).1
      rw [z, hp] at q; cases q
  refine ⟨fun i m H2 => m = ds.length - i ∧ i ≤ ds.length ∧ ∃ xs out, H2 p = some (.lst xs) ∧ xs.length ≤ i ∧ AtL K (c.with p) H2 xs out ∧ Cf K c0 (c.with p) ad H0 E (wipe s vs) H2 (wipeE r vs) ∧ S (c.with p) H2 ∧ (∀ b o, H1 b = some o → b ≠ c.sd → b ≠ c.sg → H2 b = some o) ∧ trn c.sd H2 ≤ trn c.sd H1 + i * (mc.n + me.n) ∧ lcW mg mc me (wipeE r vs) (fun out => R (.ol out)) (ds.drop i) out,
    ⟨ds.length, by simp, Nat.zero_le _, [], [], upd_same, Nat.le_refl _, .nil, (cf1.wipe vs).with hp, I.evo _ _ _ _ hS (evo_with hp), fun b o e _ _ => by rw [upd_ne (ne_of_none e hp)]; exact e, by rw [trn_new cf1.inv hp]; exact Nat.le_add_right _ _, hR⟩, ?_⟩
  rintro i m H2 ⟨rfl, hle, xs, out, hx, hxl, hxa, cf2, hS2, fr, le, hW⟩
  by_cases hlt : i < ds.length
  · refine .inr ⟨I.goes i _ H2 hlt hS2, fun H' => ∃ xs out, H' p = some (.lst xs) ∧ xs.length ≤ i + 1 ∧ AtL K (c.with p) H' xs out ∧ Cf K c0 (c.with p) ad H0 E (L2.wipe s vs) H' (wipeE r vs) ∧ S (c.with p) H' ∧ (∀ b o, H1 b = some o → b ≠ c.sd → b ≠ c.sg → H' b = some o) ∧ trn c.sd H' ≤ trn c.sd H1 + (i + 1) * (mc.n + me.n) ∧ lcW mg mc me (wipeE r vs) (fun out => R (.ol out)) (ds.drop (i + 1)) out,
      fun H' q => ⟨ds.length - (i + 1), by omega, rfl, hlt, q⟩, fun x H3 y => ?_⟩
    have ed := List.drop_eq_getElem_cons hlt
    rw [ed] at hW
    obtain ⟨s3, a3⟩ := I.ylds i _ H2 x H3 ds[i] (List.getElem?_eq_getElem hlt) hS2 cf2.ho y
    have cf3 := cf2.step s3
    have e3 := cf2.evo s3
    have s3l : trn c.sd H3 ≤ trn c.sd H2 + 0 := s3.3
    have k1 := kk (i + 1) hlt
    have k2 : (i + 1) * (mc.n + me.n) = i * (mc.n + me.n) + (mc.n + me.n) := Nat.succ_mul i (mc.n + me.n)
    have hx3 : H3 p = some (.lst xs) := s3.2 _ _ hx n1 n2
    refine hg c0 _ ad H0 _ H3 _ x ds[i] _ _ cf3 a3 hW fun s' r' hr' cf4 hw4 _ => ?_
    refine ⟨(hw4 vs hv).trans (wipe_idem s vs), ?_⟩
    refine ht c0 _ ad H0 s' H3 r' _ _ cf4 (show trn c.sd H3 + mc.n ≤ most by omega) hr' fun b H4 hb s4 => ?_
    have cf5 := cf4.step s4
    have s4l : trn c.sd H4 ≤ trn c.sd H3 + mc.n := s4.3
    have hx4 : H4 p = some (.lst xs) := s4.2 _ _ hx3 n1 n2
    have e4 := cf4.evo s4
    have fr4 : ∀ b o, H1 b = some o → b ≠ c.sd → b ≠ c.sg → H4 b = some o := fun b o e m1 m2 => s4.2 _ _ (s3.2 _ _ (fr b o e m1 m2) m1 m2) m1 m2
    cases b with
    | true =>
      rw [if_pos rfl] at hb ⊢
      refine he c0 _ ad H0 s' H4 r' _ _ cf5 (show trn c.sd H4 + me.n ≤ most by omega) hb fun z v H5 hz s5 a5 => ?_
      have e5 := cf5.evo s5
      have s5l : trn c.sd H5 ≤ trn c.sd H4 + me.n := s5.3
      have hx5 : H5 p = some (.lst xs) := s5.2 _ _ hx4 n1 n2
      have cfw : Cf K c0 (c.with p) ad H0 E (L2.wipe s vs) H5 (wipeE r vs) := ((cf3.step s4).step s5)
      obtain ⟨cf6, e6⟩ := cfw.grow (o' := .lst (xs ++ [v])) hx5 h0p n1 n2 n3 hown
      refine ⟨xs, hx5, by have := I.len; omega, xs ++ [v], out ++ [z], upd_same, by rw [List.length_append, List.length_singleton]; omega, ?_, cf6, ?_, fun b o e m1 m2 => ?_, ?_, hz⟩
      · exact ((((hxa.evo e3).evo e4).evo e5).append (.cons a5 .nil)).evo e6
      · exact I.evo _ _ _ _ hS2 (((e3.trans e4).trans e5).trans e6)
      · rw [upd_ne (ne_of_none e hp)]
        exact s5.2 _ _ (fr4 b o e m1 m2) m1 m2
      · rw [trn_same (upd_ne (Ne.symm n1))]; omega
    | false =>
      rw [if_neg Bool.false_ne_true] at hb ⊢
      exact ⟨xs, out, hx4, by omega, (hxa.evo e3).evo e4, cf3.step s4, I.evo _ _ _ _ hS2 (e3.trans e4), fr4, by omega, hb⟩
  · have e : i = ds.length := by omega
    subst e
    rw [List.drop_length] at hW
    exact .inl ⟨I.stops _ H2 hS2, k (.ol out) p H2 hW trivial (s1.free0 hp) ⟨cf2.inv, fun b o e m1 m2 => fr b o (s1.2 b o e m1 m2) m1 m2, Nat.le_trans le (kk _ hle)⟩ ⟨xs, hx, by have := I.len; omega, hxa⟩⟩
def WF.e (m : WF) : WE := ⟨fun r R => m r fun x => match x with | .ol ds => R (.lst ds) | _ => False, m.n⟩
theorem SemF.toE {K : PySem.W.Frag} {E : XK} {m : WF} {t : TE} (h : SemF K E m t) : SemE K E m.e t := by
  intro c0 c ad H0 s H r R Q cf bd hm k
  refine h c0 c ad H0 s H r _ _ cf bd hm fun x p H' hR o hp st ob => ?_
  cases x with
  | ol ds =>
    obtain ⟨xs, e, l, a⟩ := ob
    exact k (.lst ds) (.ref p) H' hR st (.lst (.inl ⟨.inl e, cf.free hp⟩) l (a.evo evo_less))
  | _ => exact hR.elim
theorem sem_lc {K : PySem.W.Frag} {E : XK} {mi : WI} {mg : WG} {mc : WT} {me : WE} {ws vs : List Nat} {wi : TI} {gt : TG} {tt : TT} {te : TE} (hv : ∀ i ∈ ws, i ∈ vs) (hi : SemI K E mi wi) (hg : SemG K E mg ws gt) (ht : SemT K E mc tt) (he : SemE K E me te) :
    SemE K E (eLc mi mg mc me vs) (tLc wi gt tt te vs) := (sem_flc hv hi hg ht he).toE
section
variable {g : G} {elt tg iter : Expr} {ifs : List Expr} {scope : Scope} {pos : Pos} {mi : WI} {mg : WG} {mc : WT} {me : WE} {ws : List Nat}
theorem blk_ok {y : Dyn} (ok : g.Ok y) (s : Shared) (H : Hp) (C : Addr) (cl : List (Str × Addr)) (fp : List Addr) :
    (g.blk scope).Ok { A := y.A, s0 := s, H0 := H, env := compEnvC scope cl C y.env, outer := y.stack, stack := y.stack, ex := fp, pn := [], xe := fun _ _ => False, E := y.E } := by
  refine ⟨?_, ok.room, ok.nd, PassesOwn.never, fun z => Bool.noConfusion z⟩
  show relS scope y.env.scope = relS scope g.sc
  rw [ok.sc]
theorem de_lc (own : List (Str × Nat)) (hi : DI g tg iter mi) (hb : blkC g.N g.sc scope own = true) (hg : DG (g.blk scope) tg mg ws) (ht : DTs (g.blk scope) ifs mc) (he : DE (g.blk scope) elt me) (hv : ∀ i ∈ ws, i ∈ own.map (·.2) := by decide)
    (hs : ∀ env x, foldedSetIterable iter env x = pure x := by intro _ _; rfl) : DE g (.ListComp elt [⟨tg, iter, ifs, 0⟩] scope pos) (eLc mi mg mc me (own.map (·.2))) := by
  obtain ⟨ti, pi⟩ := hi
  obtain ⟨tg', pg⟩ := hg
  obtain ⟨tt, pt⟩ := ht
  obtain ⟨te, pe⟩ := he
  refine ⟨fun E => tLc (ti E) (tg' E) (tt E) (te E) (own.map (·.2)), fun y ok => ⟨?_, ?_⟩⟩
  · refine pe_lc (X := g.cx y) rfl ok.nd (pi y ok).1 (blkOk_by (by show blkC g.N y.env.scope scope own = true; rw [ok.sc]; exact hb)) (fun s H C cl fp => (pg _ (blk_ok ok s H C cl fp)).1) (fun s H C cl fp => (pt _ (blk_ok ok s H C cl fp)).1) (fun s H C cl fp => (pe _ (blk_ok ok s H C cl fp)).1) (hs _)
  · have ok' := blk_ok (scope := scope) ok y.s0 y.H0 y.env.locals [] []
    exact sem_lc hv (pi y ok).2 (pg _ ok').2 (pt _ ok').2 (pe _ ok').2
theorem ds_setLc (own : List (Str × Nat)) (i : Nat) {y : Str} {py spos : Pos} (hi : DI g tg iter mi) (hb : blkC g.N g.sc scope own = true) (hg : DG (g.blk scope) tg mg ws) (ht : DTs (g.blk scope) ifs mc) (he : DE (g.blk scope) elt me) (hv : ∀ i ∈ ws, i ∈ own.map (·.2) := by decide)
    (hN : g.N[i]? = some y := by rfl) (hy : g.sc.names.lookup y = some .local := by rfl) (hk : g.sc.kind = .function := by rfl) (hl : (py.line == pos.line) = true := by rfl) (ha : (scope.names.any fun (n, k) => n == y && (k == .local || k == .cell)) = false := by decide +kernel)
    (hs : ∀ env x, foldedSetIterable iter env x = pure x := by intro _ _; rfl) : DSt g (.Assign [.Name y py] (.ListComp elt [⟨tg, iter, ifs, 0⟩] scope pos) spos) (sSet i (eLc mi mg mc me (own.map (·.2)))) := by
  obtain ⟨ti, pi⟩ := hi
  obtain ⟨tg', pg⟩ := hg
  obtain ⟨tt, pt⟩ := ht
  obtain ⟨te, pe⟩ := he
  refine ⟨fun E => tAsg (tLc (ti E) (tg' E) (tt E) (te E) (own.map (·.2))) (gName i), fun z ok => ⟨?_, ?_⟩⟩
  · refine ps_setLc (X := g.cx z) rfl ok.nd hN (by show z.env.scope.names.lookup y = _; rw [ok.sc]; exact hy) (sw_true (by show z.env.scope.kind = _; rw [ok.sc]; exact hk) (by show z.env.scope.names.lookup y = _; rw [ok.sc]; exact hy) hl ha) (pi z ok).1
      (blkOk_by (by show blkC g.N z.env.scope scope own = true; rw [ok.sc]; exact hb)) (fun s H C cl fp => (pg _ (blk_ok ok s H C cl fp)).1) (fun s H C cl fp => (pt _ (blk_ok ok s H C cl fp)).1) (fun s H C cl fp => (pe _ (blk_ok ok s H C cl fp)).1) (hs _)
  · have ok' := blk_ok (scope := scope) ok z.s0 z.H0 z.env.locals [] []
    exact sem_set (sem_lc hv (pi z ok).2 (pg _ ok').2 (pt _ ok').2 (pe _ ok').2)
end
end DS
/-! DS5: the operators' own meanings. -/
namespace DS
open PySem PySem.Spec PyProof.Rows L2

/-! ### whole numbers -/
def i2 (f : Int → Int → Option D) : D → D → Option D := fun x y => match x with
  | .int i => match y with
    | .int j => f i j
    | _ => none
  | _ => none
theorem i2_inv {f : Int → Int → Option D} {x y z : D} (h : i2 f x y = some z) : ∃ i j, x = .int i ∧ y = .int j ∧ f i j = some z := by
  cases x with
  | int i => cases y with
    | int j => exact ⟨i, j, rfl, rfl, h⟩
    | _ => cases h
  | _ => cases h
theorem sem_i0 {K : PySem.W.Frag} {f : Int → Int → Int} : SemO K (i2 fun i j => some (.int (f i j))) (rI0 fun i j => .int (f i j)) := by
  intro c H v u x y z Q ho a b e k
  obtain ⟨i, j, rfl, rfl, e⟩ := i2_inv e
  cases a; cases b; cases e
  exact ⟨i, j, rfl, rfl, k _ H (Step.refl ho.inv) (.int _)⟩
theorem sem_ib {K : PySem.W.Frag} {f : Int → Int → Bool} : SemO K (i2 fun i j => some (.bl (f i j))) (rI0 fun i j => .bl (f i j)) := by
  intro c H v u x y z Q ho a b e k
  obtain ⟨i, j, rfl, rfl, e⟩ := i2_inv e
  cases a; cases b; cases e
  exact ⟨i, j, rfl, rfl, k _ H (Step.refl ho.inv) (.bl _)⟩
theorem sem_ic {K : PySem.W.Frag} {C : Int → Int → Prop} [DecidableRel C] {f : Int → Int → Int} : SemO K (i2 fun i j => if C i j then some (.int (f i j)) else none) (rI C fun i j => .int (f i j)) := by
  intro c H v u x y z Q ho a b e k
  obtain ⟨i, j, rfl, rfl, e'⟩ := i2_inv e
  cases a; cases b
  split at e'
  · rename_i hc
    cases e'
    exact ⟨i, j, rfl, rfl, hc, k _ H (Step.refl ho.inv) (.int _)⟩
  · cases e'
theorem SemO.or {K : PySem.W.Frag} {f f' : D → D → Option D} {r r' : R2} (h : SemO K f r) (h' : SemO K f' r') : SemO K (fun x y => (f x y).or (f' x y)) (fun x y H Q => r x y H Q ∨ r' x y H Q) := by
  intro c H v u x y z Q ho a b e k
  have e : (f x y).or (f' x y) = some z := e
  cases q : f x y with
  | some w =>
    rw [q, Option.some_or] at e
    cases e
    exact .inl (h c H v u x y _ Q ho a b q k)
  | none =>
    rw [q, Option.none_or] at e
    exact .inr (h' c H v u x y z Q ho a b e k)
def ltD : D → D → Option D := i2 fun i j => some (.bl (decide (i < j)))
def leD : D → D → Option D := i2 fun i j => some (.bl (decide (i ≤ j)))
def gtD : D → D → Option D := i2 fun i j => some (.bl (decide (j < i)))
def geD : D → D → Option D := i2 fun i j => some (.bl (decide (j ≤ i)))
theorem s_lt {K} : SemO K ltD (rI0 fun i j => .bl (decide (i < j))) := sem_ib
theorem s_le {K} : SemO K leD (rI0 fun i j => .bl (decide (i ≤ j))) := sem_ib
theorem s_gt {K} : SemO K gtD (rI0 fun i j => .bl (decide (j < i))) := sem_ib
theorem s_ge {K} : SemO K geD (rI0 fun i j => .bl (decide (j ≤ i))) := sem_ib
def subD : D → D → Option D := i2 fun i j => some (.int (i - j))
theorem s_sub {K} : SemO K subD (rI0 fun i j => .int (i - j)) := sem_i0
instance : DecidableRel CMul := fun i j => by unfold CMul; exact inferInstance
def mulI : D → D → Option D := i2 fun i j => if CMul i j then some (.int (i * j)) else none
theorem s_mulI {K} : SemO K mulI (rI CMul fun i j => .int (i * j)) := sem_ic
def modD : D → D → Option D := i2 fun i j => if 0 < j then some (.int (i % j)) else none
theorem s_mod {K} : SemO K modD (rI (fun _ j => 0 < j) fun i j => .int (i % j)) := sem_ic
instance : DecidableRel CDiv := fun i j => by unfold CDiv; exact inferInstance
def fdivD : D → D → Option D := i2 fun i j => if CDiv i j then some (.int (i / j)) else none
theorem s_fdiv {K} : SemO K fdivD (rI CDiv fun i j => .int (i / j)) := sem_ic
instance : DecidableRel CPow := fun i j => by unfold CPow; exact inferInstance
def powD : D → D → Option D := i2 fun i j => if CPow i j then some (.int (i ^ j.toNat)) else none
theorem s_pow {K} : SemO K powD (rI CPow fun i j => .int (i ^ j.toNat)) := sem_ic

/-! ### one place -/
def SemU (K : PySem.W.Frag) (f : D → Option D) (r : V → Hp → VK → Prop) : Prop := ∀ c H v x z Q, Ho c H → At K c H v x → f x = some z → (∀ v' H', Step 0 c H H' → At K c H' v' z → Q v' H') → r v H Q
def eUn (f : D → Option D) (a : WE) : WE := ⟨fun r R => a r fun x => ∃ z, f x = some z ∧ R z, a.n⟩
theorem de_un {g : G} {op : UnaryOp} {f : D → Option D} {r : V → Hp → VK → Prop} {a : Expr} {ma : WE} {pos : Pos} (ho : ∀ y, g.Ok y → UnR (g.cx y) (unaryOp op) r) (h : SemU g.K f r) (ha : DE g a ma) : DE g (.UnaryOp op a pos) (eUn f ma) := by
  obtain ⟨ta, pa⟩ := ha
  refine ⟨fun E => tUn r (ta E), fun y ok => ⟨pe_un (ho y ok) (pa y ok).1, ?_⟩⟩
  intro c0 c ad H0 s H rr R Q cf bd hm k
  refine (pa y ok).2 c0 c ad H0 s H rr _ _ cf bd hm fun x v H1 hx s1 a1 => ?_
  obtain ⟨z, e, hR⟩ := hx
  exact h c H1 v x z Q (cf.step s1).ho a1 e fun v' H' s2 a2 => k z v' H' hR (s1.trans s2) a2
def negD : D → Option D
  | .int i => some (.int (-i))
  | _ => none
theorem s_neg {K} : SemU K negD (rU fun i => .int (-i)) := by
  intro c H v x z Q ho a e k
  cases a with
  | int i => cases e; exact ⟨i, rfl, k _ H (Step.refl ho.inv) (.int _)⟩
  | _ => cases e

/-! ### == -/
mutual
def toP : D → PyData
  | .non => .none
  | .bl b => .bool b
  | .int i => .int i
  | .str x => .str x
  | .tup ds => .tuple (toPs ds)
  | .lst ds => .list (toPs ds)
  | .dic _ _ => .none
  | .ref _ => .none
  | .ty _ => .none
  | .st => .none
def toPs : List D → List PyData
  | [] => []
  | d :: ds => toP d :: toPs ds
end
mutual
/-- it holds no dict and no object -/
def okq : D → Bool
  | .non => true
  | .bl _ => true
  | .int _ => true
  | .str x => PyData.strOk x
  | .tup ds => okqs ds
  | .lst ds => okqs ds
  | .dic _ _ => false
  | .ref _ => false
  | .ty _ => false
  | .st => false
def okqs : List D → Bool
  | [] => true
  | d :: ds => okq d && okqs ds
end
mutual
theorem canLay_of {d : D} (h : okq d = true) : (toP d).canLay0 = true := by
  match d with
  | .non => rfl
  | .bl _ => rfl
  | .int _ => rfl
  | .str x => exact h
  | .tup ds => simp only [toP, PyData.canLay0]; exact canLays_of (by simpa only [okq] using h)
  | .lst ds => simp only [toP, PyData.canLay0]; exact canLays_of (by simpa only [okq] using h)
  | .dic _ _ => simp [okq] at h
  | .ref _ => simp [okq] at h
  | .ty _ => simp [okq] at h
  | .st => simp [okq] at h
theorem canLays_of {ds : List D} (h : okqs ds = true) : PyData.canLayAll0 (toPs ds) = true := by
  match ds with
  | [] => rfl
  | d :: ds =>
    simp only [okqs, Bool.and_eq_true] at h
    simp only [toPs, PyData.canLayAll0, Bool.and_eq_true]
    exact ⟨canLay_of h.1, canLays_of h.2⟩
end
section
variable {K : PySem.W.Frag} {c : Co} {H : Hp}
mutual
theorem At.dp : ∀ {d : D} {v : V}, okq d = true → At K c H v d → Dp K H v (toP d)
  | .non, _, _, .non => by simp only [toP]; exact .non
  | .bl _, _, _, .bl b => by simp only [toP]; exact .bl b
  | .int _, _, _, .int b => by simp only [toP]; exact .int b
  | .str _, _, _, .str b => by simp only [toP]; exact .str b
  | .tup ds, _, q, .tup h l r => by simp only [toP]; exact .tup h.sq (AtL.dp (by simpa only [okq] using q) r)
  | .lst ds, _, q, .lst h l r => by simp only [toP]; exact .lst h.sq (AtL.dp (by simpa only [okq] using q) r)
  | .dic _ _, _, q, _ => by simp [okq] at q
  | .ref _, _, q, _ => by simp [okq] at q
  | .ty _, _, q, _ => by simp [okq] at q
  | .st, _, q, _ => by simp [okq] at q
theorem AtL.dp : ∀ {ds : List D} {vs : List V}, okqs ds = true → AtL K c H vs ds → DpAll K H vs (toPs ds)
  | [], _, _, .nil => by simp only [toPs]; exact .nil
  | d :: ds, _, q, .cons h r => by
    simp only [okqs, Bool.and_eq_true] at q
    simp only [toPs]
    exact .cons (At.dp q.1 h) (AtL.dp q.2 r)
end
end
/-- a tuple or a list against an empty one of its kind -/
def emp (x y : D) : Option Bool := match y with
  | .tup ys => match x with
    | .tup xs => if ys.isEmpty then some xs.isEmpty else none
    | _ => none
  | .lst ys => match x with
    | .lst xs => if ys.isEmpty then some xs.isEmpty else none
    | _ => none
  | _ => none
def eqB (x y : D) : Option Bool := (emp x y).or (if okq x = true ∧ okq y = true ∧ min (toP x).depth (toP y).depth ≤ 64 then some (PyData.eqv (toP x) (toP y)) else none)
def eqD (x y : D) : Option D := (eqB x y).map .bl
def neD (x y : D) : Option D := (eqB x y).map fun b => .bl (!b)
def rEqA (K : PySem.W.Frag) (f : Bool → Bool) : R2 := fun x y H Q => (∃ d e, Dp K H x d ∧ Dp K H y e ∧ d.canLay0 = true ∧ e.canLay0 = true ∧ min d.depth e.depth ≤ 64 ∧ Q (.bl (f (PyData.eqv d e))) H) ∨
  (∃ a b xs, x = .ref a ∧ y = .ref b ∧ SqT K H a xs ∧ SqT K H b [] ∧ Q (.bl (f xs.isEmpty)) H) ∨ (∃ a b xs, x = .ref a ∧ y = .ref b ∧ SqL K H a xs ∧ SqL K H b [] ∧ Q (.bl (f xs.isEmpty)) H)
theorem op_eqA {X : Cx} (hu : X.A.units + 64 < cLine) : OpR X (compareOp .Eq) (rEqA X.K fun b => b) := by
  intro pins s σ H x y v u Q I rx ry h
  rcases h with ⟨d, e, hd, he, cd, ce, hm, q⟩ | ⟨a, b, xs, rfl, rfl, ha, hb, q⟩ | ⟨a, b, xs, rfl, rfl, ha, hb, q⟩
  · obtain ⟨as, r1⟩ := Dp.reads I d x v hd rx
    obtain ⟨bs, r2⟩ := Dp.reads I e y u he ry
    exact SeqAt.compareEq_reads r1 r2 cd ce (by omega) ⟨.bl _, H, I, rfl, q⟩
  · cases rx
    cases ry
    obtain ⟨its, r1, p1, _⟩ := I.tuple ha
    obtain ⟨its2, r2, p2, _⟩ := I.tuple hb
    cases r2
    have hl := r1.length
    refine SeqAt.eq_tupleAt (e := fun _ => true) p1 p2 (by omega) (fun j h1 h2 => absurd h2 (by simp)) ⟨.bl _, H, I, ?_, q⟩
    show _ = Value.bool _
    congr 1
    cases xs with
    | nil => cases r1; rfl
    | cons z zs => cases r1; simp
  · cases rx
    cases ry
    obtain ⟨its, r1, p1, _⟩ := I.list ha
    obtain ⟨its2, r2, p2, _⟩ := I.list hb
    cases r2
    have hl := r1.length
    cases xs with
    | nil =>
      cases r1
      exact SeqAt.eq_listAt (e := fun _ => true) p1.isList p2.isList rfl (by omega) (fun j h1 h2 => absurd h2 (by simp)) ⟨.bl _, H, I, rfl, q⟩
    | cons z zs =>
      cases r1
      exact SeqAt.eq_list_lengthsAt p1.isList p2.isList (by simp) (by omega) ⟨.bl _, H, I, rfl, q⟩
theorem op_neA {X : Cx} (hu : X.A.units + 64 < cLine) : OpR X (compareOp .NotEq) (rEqA X.K fun b => !b) := by
  intro pins s σ H x y v u Q I rx ry h
  rcases h with ⟨d, e, hd, he, cd, ce, hm, q⟩ | ⟨a, b, xs, rfl, rfl, ha, hb, q⟩ | ⟨a, b, xs, rfl, rfl, ha, hb, q⟩
  · obtain ⟨as, r1⟩ := Dp.reads I d x v hd rx
    obtain ⟨bs, r2⟩ := Dp.reads I e y u he ry
    exact SeqAt.compareNe_reads r1 r2 cd ce (by omega) ⟨.bl _, H, I, rfl, q⟩
  · cases rx
    cases ry
    obtain ⟨its, r1, p1, _⟩ := I.tuple ha
    obtain ⟨its2, r2, p2, _⟩ := I.tuple hb
    cases r2
    refine SeqAt.RcNeAt.tuples (e := fun _ => true) p1 p2 (by omega) (fun j h1 h2 => absurd h2 (by simp)) _ _ _ _ ⟨.bl _, H, I, ?_, q⟩
    show _ = Value.bool _
    congr 1
    cases xs with
    | nil => cases r1; rfl
    | cons z zs => cases r1; simp
  · cases rx
    cases ry
    obtain ⟨its, r1, p1, _⟩ := I.list ha
    obtain ⟨its2, r2, p2, _⟩ := I.list hb
    cases r2
    cases xs with
    | nil =>
      cases r1
      exact SeqAt.RcNeAt.lists (e := fun _ => true) p1.isList p2.isList rfl (by omega) (fun j h1 h2 => absurd h2 (by simp)) _ _ _ _ ⟨.bl _, H, I, rfl, q⟩
    | cons z zs =>
      cases r1
      exact SeqAt.RcNeAt.lists_lengths p1.isList p2.isList (by simp) (by omega) _ _ _ _ ⟨.bl _, H, I, rfl, q⟩
theorem emp_inv {x y : D} {b : Bool} (h : emp x y = some b) : (∃ xs, x = .tup xs ∧ y = .tup [] ∧ b = xs.isEmpty) ∨ (∃ xs, x = .lst xs ∧ y = .lst [] ∧ b = xs.isEmpty) := by
  cases y with
  | tup ys => cases x with
    | tup xs => cases ys with
      | nil => cases h; exact .inl ⟨xs, rfl, rfl, rfl⟩
      | cons _ _ => cases h
    | _ => cases h
  | lst ys => cases x with
    | lst xs => cases ys with
      | nil => cases h; exact .inr ⟨xs, rfl, rfl, rfl⟩
      | cons _ _ => cases h
    | _ => cases h
  | _ => cases h
theorem s_eqf {K : PySem.W.Frag} {f : Bool → Bool} : SemO K (fun x y => (eqB x y).map fun b => .bl (f b)) (rEqA K f) := by
  intro c H v u x y z Q ho a b e k
  have e : (eqB x y).map (fun b => D.bl (f b)) = some z := e
  cases hq : eqB x y with
  | none => rw [hq] at e; cases e
  | some w =>
    rw [hq] at e
    cases e
    unfold eqB at hq
    cases he : emp x y with
    | some w' =>
      rw [he, Option.some_or] at hq
      cases hq
      have emp_bl : ∀ {xs : List V} {ds : List D}, AtL K c H xs ds → xs.isEmpty = ds.isEmpty := fun {xs ds} r => by cases r <;> rfl
      rcases emp_inv he with ⟨xs, rfl, rfl, rfl⟩ | ⟨xs, rfl, rfl, rfl⟩
      · cases a with
        | tup h l r =>
          cases b with
          | tup h2 l2 r2 =>
            cases r2
            exact .inr (.inl ⟨_, _, _, rfl, rfl, h.sq, h2.sq, k _ H (Step.refl ho.inv) (by rw [emp_bl r]; exact .bl _)⟩)
      · cases a with
        | lst h l r =>
          cases b with
          | lst h2 l2 r2 =>
            cases r2
            exact .inr (.inr ⟨_, _, _, rfl, rfl, h.sq, h2.sq, k _ H (Step.refl ho.inv) (by rw [emp_bl r]; exact .bl _)⟩)
    | none =>
      rw [he, Option.none_or] at hq
      split at hq
      · rename_i hc
        cases hq
        exact .inl ⟨_, _, a.dp hc.1, b.dp hc.2.1, canLay_of hc.1, canLay_of hc.2.1, hc.2.2, k _ H (Step.refl ho.inv) (.bl _)⟩
      · cases hq
theorem s_eq {K} : SemO K eqD (rEqA K fun b => b) := s_eqf
theorem s_ne {K} : SemO K neD (rEqA K fun b => !b) := s_eqf
theorem eqD_nil (ds : List D) : eqD (.tup ds) (.tup []) = some (.bl ds.isEmpty) := rfl
theorem neD_nil (ds : List D) : neD (.tup ds) (.tup []) = some (.bl !ds.isEmpty) := rfl
theorem eqD_nilL (ds : List D) : eqD (.lst ds) (.lst []) = some (.bl ds.isEmpty) := rfl
theorem neD_nilL (ds : List D) : neD (.lst ds) (.lst []) = some (.bl !ds.isEmpty) := rfl

/-! ### is -/
def isB (x y : D) : Option Bool := match y with
  | .non => some (match x with | .non => true | _ => false)
  | .bl b => some (match x with | .bl a => a == b | _ => false)
  | _ => none
def isD (x y : D) : Option D := (isB x y).map .bl
def isntD (x y : D) : Option D := (isB x y).map fun b => .bl (!b)
def vIs (x y : V) : Option Bool := match y with
  | .non => some (match x with | .non => true | _ => false)
  | .bl b => some (match x with | .bl a => a == b | _ => false)
  | _ => none
def rIs (f : Bool → Bool) : R2 := fun x y H Q => ∃ b, vIs x y = some b ∧ Q (.bl (f b)) H
theorem is_same {M : Model} {A : Around} {E : Value → Shared → Prop} {s : Shared} {x y : V} {v u : Value} {b : Bool} {Q : Bool → Shared → Prop} (rx : RelV x v) (ry : RelV y u) (e : vIs x y = some b) (h : Q b s) : wpAny M A (isSame v u) Q E s := by
  cases y with
  | non =>
    cases ry
    cases e
    cases x with
    | non => cases rx; exact wpAny_pure h
    | bl a => cases rx; exact wpAny_pure h
    | int a => obtain ⟨t, rfl⟩ := rx; exact wpAny_pure h
    | str a => obtain ⟨t, rfl⟩ := rx; exact wpAny_pure h
    | byt a => obtain ⟨t, rfl⟩ := rx; exact wpAny_pure h
    | flt a => obtain ⟨t, rfl⟩ := rx; exact wpAny_pure h
    | ref a => cases rx; exact wpAny_pure h
    | ty a => cases rx; exact wpAny_pure h
  | bl b =>
    cases ry
    cases e
    cases x with
    | non => cases rx; exact wpAny_pure h
    | bl a =>
      cases rx
      refine wpAny_pure ?_
      have e : (Value.bool a == Value.bool b) = (a == b) := by cases a <;> cases b <;> rfl
      rw [e]
      exact h
    | int a => obtain ⟨t, rfl⟩ := rx; exact wpAny_pure h
    | str a => obtain ⟨t, rfl⟩ := rx; exact wpAny_pure h
    | byt a => obtain ⟨t, rfl⟩ := rx; exact wpAny_pure h
    | flt a => obtain ⟨t, rfl⟩ := rx; exact wpAny_pure h
    | ref a => cases rx; exact wpAny_pure h
    | ty a => cases rx; exact wpAny_pure h
  | _ => cases e
theorem op_isA {X : Cx} : OpR X (compareOp .Is) (rIs fun b => b) := by
  intro pins s σ H x y v u Q I rx ry ⟨b, e, q⟩
  show wpAny _ _ (do let r ← isSame v u; pure (Value.bool r)) _ _ s
  exact wpAny_bind (is_same rx ry e (wpAny_pure ⟨.bl _, H, I, rfl, q⟩))
theorem op_isntA {X : Cx} : OpR X (compareOp .IsNot) (rIs fun b => !b) := by
  intro pins s σ H x y v u Q I rx ry ⟨b, e, q⟩
  show wpAny _ _ (do let r ← isSame v u; pure (Value.bool (!r))) _ _ s
  exact wpAny_bind (is_same rx ry e (wpAny_pure ⟨.bl _, H, I, rfl, q⟩))
theorem vIs_at {K : PySem.W.Frag} {c : Co} {H : Hp} {x y : D} {v u : V} {b : Bool} (a : At K c H v x) (a' : At K c H u y) (e : isB x y = some b) : vIs v u = some b := by
  cases a' with
  | non => cases e; cases a <;> rfl
  | bl b => cases e; cases a <;> rfl
  | _ => cases e
theorem s_isf {K : PySem.W.Frag} {f : Bool → Bool} : SemO K (fun x y => (isB x y).map fun b => .bl (f b)) (rIs f) := by
  intro c H v u x y z Q ho a b e k
  have e : (isB x y).map (fun b => D.bl (f b)) = some z := e
  cases hq : isB x y with
  | none => rw [hq] at e; cases e
  | some w =>
    rw [hq] at e
    cases e
    exact ⟨w, vIs_at a b hq, k _ H (Step.refl ho.inv) (.bl _)⟩
theorem s_is {K} : SemO K isD (rIs fun b => b) := s_isf
theorem s_isnt {K} : SemO K isntD (rIs fun b => !b) := s_isf

/-! ### isinstance, len, list, tuple, all, any -/
def tyN : D → Option String
  | .non => some "NoneType"
  | .bl _ => some "bool"
  | .int _ => some "int"
  | .str _ => some "str"
  | .tup _ => some "tuple"
  | .lst _ => some "list"
  | .dic _ _ => some "dict"
  | _ => none
/-- isinstance, a built-in class -/
def isi : List D → Option D
  | [x, .ty n] => (tyN x).bind fun t => (kitB t n).map .bl
  | _ => none
theorem At.tyx {K : PySem.W.Frag} {c : Co} {H : Hp} {v : V} {d : D} {t : String} (a : At K c H v d) (e : tyN d = some t) : TyX K H v (.type t) := by
  cases a with
  | non => cases e; exact .base .non
  | bl b => cases e; exact .base (.bl b)
  | int b => cases e; exact .base (.int b)
  | str b => cases e; exact .base (.str b)
  | tup h l r =>
    cases e
    rcases h with ⟨h | ⟨o, h⟩, _⟩ | ⟨o, its, n, h, hc, _⟩
    · exact .base (.tup h)
    · exact .fTuple h
    · exact .kTuple h hc
  | lst h l r =>
    cases e
    rcases h with ⟨h | ⟨o, h⟩, _⟩ | ⟨o, its, n, h, hc, _⟩
    · exact .base (.lst h)
    · exact .base (.frz h)
    · exact .kList h hc
  | dic h l r =>
    cases e
    rcases h with ⟨h | ⟨o, h⟩, _⟩
    · exact .base (.dK h)
    · exact .fDict h
  | ty n => cases e
  | ref n => cases e
  | st => cases e
theorem s_isi {K : PySem.W.Frag} : SemC K isi (rIsi K) := by
  intro c H vs ds z Q ho a e k
  match ds, a, e with
  | [x, .ty n], .cons a1 (.cons (.ty _) .nil), e =>
    have e : ((tyN x).bind fun t => (kitB t n).map D.bl) = some z := e
    cases ht : tyN x with
    | none => rw [ht] at e; cases e
    | some t =>
      rw [ht] at e
      cases hb : kitB t n with
      | none => rw [Option.bind_some, hb] at e; cases e
      | some b =>
        rw [Option.bind_some, hb] at e
        cases e
        exact ⟨_, .ty n, .type t, .type n, b, rfl, .ty n, a1.tyx ht, kit_ty hb, k _ H (Step.refl ho.inv) (.bl b)⟩
def lenD : List D → Option D
  | [.str z] => if z.length ≤ sizeLine then some (.int z.length) else none
  | [.tup ds] => some (.int ds.length)
  | [.lst ds] => some (.int ds.length)
  | _ => none
theorem s_len {K : PySem.W.Frag} : SemC K lenD (fun xs H Q => ∃ x n, xs = [x] ∧ LenV K x H n ∧ Q (.int n) H) := by
  intro c H vs ds z Q ho a e k
  match ds, a, e with
  | [.str z], .cons (.str _) .nil, e =>
    have e : (if z.length ≤ sizeLine then some (D.int z.length) else none) = some _ := e
    split at e
    · rename_i hz
      cases e
      exact ⟨_, z.length, rfl, ⟨hz, rfl⟩, k _ H (Step.refl ho.inv) (.int _)⟩
    · cases e
  | [.tup ds], .cons (.tup h l r) .nil, e =>
    cases e
    exact ⟨_, ds.length, rfl, .inr ⟨_, h.sq, r.length.symm⟩, k _ H (Step.refl ho.inv) (.int _)⟩
  | [.lst ds], .cons (.lst h l r) .nil, e =>
    cases e
    exact ⟨_, ds.length, rfl, .inl ⟨_, h.sq, r.length.symm⟩, k _ H (Step.refl ho.inv) (.int _)⟩
def toL : List D → Option D
  | [.tup ds] => some (.lst ds)
  | [.lst ds] => some (.lst ds)
  | _ => none
theorem s_toL {K : PySem.W.Frag} : SemC K toL (fun xs H Q => ∃ p ys, xs = [.ref p] ∧ (SqL K H p ys ∨ SqT K H p ys) ∧ ∀ l, H l = none → Q (.ref l) (upd H l (.lst ys))) := by
  intro c H vs ds z Q ho a e k
  match ds, a, e with
  | [.tup ds], .cons (.tup h l r) .nil, e =>
    cases e
    exact ⟨_, _, rfl, .inr h.sq, fun p hp => k _ _ (ho.new hp) (ho.lst hp l r)⟩
  | [.lst ds], .cons (.lst h l r) .nil, e =>
    cases e
    exact ⟨_, _, rfl, .inl h.sq, fun p hp => k _ _ (ho.new hp) (ho.lst hp l r)⟩
def toT : List D → Option D
  | [.tup ds] => some (.tup ds)
  | [.lst ds] => some (.tup ds)
  | _ => none
theorem s_toT {K : PySem.W.Frag} : SemC K toT (fun xs H Q => ∃ p ys, xs = [.ref p] ∧ ((SqL K H p ys ∧ ∀ l, H l = none → Q (.ref l) (upd H l (.tup ys))) ∨ (SqT K H p ys ∧ Q (.ref p) H))) := by
  intro c H vs ds z Q ho a e k
  match ds, a, e with
  | [.tup ds], .cons (.tup h l r) .nil, e =>
    cases e
    exact ⟨_, _, rfl, .inr ⟨h.sq, k _ _ (Step.refl ho.inv) (.tup h l r)⟩⟩
  | [.lst ds], .cons (.lst h l r) .nil, e =>
    cases e
    exact ⟨_, _, rfl, .inl ⟨h.sq, fun p hp => k _ _ (ho.new hp) (ho.tup hp l r)⟩⟩
/-- the bools of a list of bools -/
def bls : List D → Option (List Bool)
  | [] => some []
  | .bl b :: r => (bls r).map (b :: ·)
  | _ :: _ => none
theorem bls_inv : ∀ {ds : List D} {bs : List Bool}, bls ds = some bs → ds = bs.map .bl
  | [], _, h => by cases h; rfl
  | .bl b :: r, bs, h => by
    have h : (bls r).map (b :: ·) = some bs := h
    cases q : bls r with
    | none => rw [q] at h; cases h
    | some x => rw [q] at h; cases h; rw [List.map_cons, bls_inv q]
theorem bls_map (bs : List Bool) : bls (bs.map .bl) = some bs := by
  induction bs with
  | nil => rfl
  | cons b r ih => show (bls (r.map .bl)).map (b :: ·) = _; rw [ih]; rfl
def allD : List D → Option D
  | [.lst ds] => (bls ds).map fun bs => .bl (bs.all id)
  | _ => none
def anyD : List D → Option D
  | [.lst ds] => (bls ds).map fun bs => .bl (bs.any id)
  | _ => none
theorem s_all {K : PySem.W.Frag} : SemC K allD (rAll K) := by
  intro c H vs ds z Q ho a e k
  match ds, a, e with
  | [.lst ds], .cons (.lst h l r) .nil, e =>
    have e : (bls ds).map (fun bs => D.bl (bs.all id)) = some _ := e
    cases q : bls ds with
    | none => rw [q] at e; cases e
    | some bs =>
      rw [q] at e
      cases e
      rw [bls_inv q] at r
      exact ⟨_, bs, rfl, by rw [← r.bls]; exact h.sq, k _ H (Step.refl ho.inv) (.bl _)⟩
theorem s_any {K : PySem.W.Frag} : SemC K anyD (rAny K) := by
  intro c H vs ds z Q ho a e k
  match ds, a, e with
  | [.lst ds], .cons (.lst h l r) .nil, e =>
    have e : (bls ds).map (fun bs => D.bl (bs.any id)) = some _ := e
    cases q : bls ds with
    | none => rw [q] at e; cases e
    | some bs =>
      rw [q] at e
      cases e
      rw [bls_inv q] at r
      exact ⟨_, bs, rfl, by rw [← r.bls]; exact h.sq, k _ H (Step.refl ho.inv) (.bl _)⟩

/-! ### a[i], a[i:j], + -/
def ixD (x y : D) : Option D := match y with
  | .int i => match x with
    | .tup ds => atI ds i
    | .lst ds => atI ds i
    | .str z => if z.length ≤ sizeLine then (atI z.cps.toList i).map fun c => .str ⟨#[c]⟩ else none
    | _ => none
  | _ => none
theorem AtL.atI {K : PySem.W.Frag} {c : Co} {H : Hp} {ds : List D} {vs : List V} {i : Int} {d : D} (a : AtL K c H vs ds) (e : atI ds i = some d) : ∃ v, L2.atI vs i = some v ∧ At K c H v d := by
  unfold L2.atI at e ⊢
  rw [a.length]
  cases q : ixN ds.length i with
  | none => rw [q] at e; cases e
  | some j =>
    rw [q] at e
    obtain ⟨v, e1, a1⟩ := a.some_of (show ds[j]? = some d from e)
    exact ⟨v, e1, a1⟩
theorem s_ix {K : PySem.W.Frag} : SemO K ixD (rIx K) := by
  intro c H v u x y z Q ho a b e k
  cases b with
  | int i =>
    cases a with
    | tup h l r =>
      obtain ⟨w, e1, a1⟩ := r.atI (show atI _ i = some z from e)
      exact .inr (.inl ⟨_, _, i, w, rfl, rfl, h.sq, e1, k _ H (Step.refl ho.inv) a1⟩)
    | lst h l r =>
      obtain ⟨w, e1, a1⟩ := r.atI (show atI _ i = some z from e)
      exact .inl ⟨_, _, i, w, rfl, rfl, h.sq, e1, k _ H (Step.refl ho.inv) a1⟩
    | str w =>
      have e : (if w.length ≤ sizeLine then (L2.atI w.cps.toList i).map (fun c => D.str ⟨#[c]⟩) else none) = some z := e
      split at e
      · rename_i hw
        cases q : L2.atI w.cps.toList i with
        | none => rw [q] at e; cases e
        | some ch =>
          rw [q] at e
          cases e
          exact .inr (.inr ⟨w, i, ch, rfl, rfl, hw, q, k _ H (Step.refl ho.inv) (.str _)⟩)
      · cases e
    | _ => cases e
  | _ => cases e
theorem de_ix {g : G} {a b : Expr} {ma mb : WE} {pos : Pos} (ha : DE g a ma) (hb : DE g b mb) (hs : PlainIx b := by intro _ _; rfl) : DE g (.Subscript a b pos) (eOp ixD ma mb) := by
  obtain ⟨ta, pa⟩ := ha
  obtain ⟨tb, pb⟩ := hb
  exact ⟨fun E => tOp (rIx g.K) (ta E) (tb E), fun y ok => ⟨pe_ix ix_seq (pa y ok).1 (pb y ok).1 hs, sem_op s_ix (pa y ok).2 (pb y ok).2⟩⟩
def cutL {α : Type} (xs : List α) (lo hi : Option Int) : List α := (xs.drop (HT.sIx xs.length 0 lo)).take (HT.sIx xs.length xs.length hi - HT.sIx xs.length 0 lo)
def slD (x : D) (lo hi : Option Int) : Option D := match x with
  | .tup ds => some (.tup (cutL ds lo hi))
  | .lst ds => some (.lst (cutL ds lo hi))
  | .str z => if z.length ≤ sizeLine then some (.str (cutS z lo hi)) else none
  | _ => none
structure WO where
  f : Env → (Option Int → Prop) → Prop
  n : Nat
instance : CoeFun WO fun _ => Env → (Option Int → Prop) → Prop := ⟨WO.f⟩
def oNo : WO := ⟨fun _ R => R none, 0⟩
def oYes (m : WE) : WO := ⟨fun r R => m r fun d => ∃ i, d = .int i ∧ R (some i), m.n⟩
def SemP (K : PySem.W.Frag) (E : XK) (m : WO) (t : TO) : Prop := ∀ c0 c ad H0 s H r R Q, Cf K c0 c ad H0 E s H r → trn c.sd H + m.n ≤ most → m r R → (∀ o H', R o → Step m.n c H H' → Q o H') → t s H Q
def DO (g : G) (e : Option Expr) (m : WO) : Prop := ∃ t : XK → TO, ∀ y, g.Ok y → PO (g.cx y) e (t y.E) ∧ SemP g.K y.E m (t y.E)
theorem do_none {g : G} : DO g none oNo := ⟨fun _ => tNoPart, fun y ok => ⟨po_none, fun c0 c ad H0 s H r R Q cf bd hm k => k none H hm (Step.refl cf.inv)⟩⟩
theorem do_some {g : G} {e : Expr} {m : WE} (h : DE g e m) : DO g (some e) (oYes m) := by
  obtain ⟨t, p⟩ := h
  refine ⟨fun E => tPart (t E), fun y ok => ⟨po_some (p y ok).1, ?_⟩⟩
  intro c0 c ad H0 s H rr R Q cf bd hm k
  refine (p y ok).2 c0 c ad H0 s H rr _ _ cf bd hm fun x v H1 hx s1 a1 => ?_
  obtain ⟨i, rfl, hR⟩ := hx
  cases a1
  exact ⟨i, rfl, k _ H1 hR s1⟩
def eSl (a : WE) (lo hi : WO) : WE := ⟨fun r R => a r fun x => lo r fun l => hi r fun h => ∃ z, slD x l h = some z ∧ R z, a.n + lo.n + hi.n⟩
def rSlAny (K : PySem.W.Frag) : V → Option Int → Option Int → Hp → VK → Prop := fun x lo hi H Q => rSlL K x lo hi H Q ∨ rSlA K x lo hi H Q ∨ rSlS x lo hi H Q
theorem s_sl {K : PySem.W.Frag} {c : Co} {H : Hp} {v : V} {x z : D} {lo hi : Option Int} {Q : VK} (ho : Ho c H) (a : At K c H v x) (e : slD x lo hi = some z) (k : ∀ v' H', Step 0 c H H' → At K c H' v' z → Q v' H') : rSlAny K v lo hi H Q := by
  have cut : ∀ {xs : List V} {ds : List D}, AtL K c H xs ds → AtL K c H (cutV xs lo hi) (cutL ds lo hi) := fun {xs ds} r => by
    unfold cutV cutL
    rw [r.length]
    exact (r.drop _).take _
  cases a with
  | @tup _ xs ds h l r =>
    cases e
    refine .inr (.inl ⟨_, _, rfl, h.sq, fun hw => ?_, fun _ p hp => ?_⟩)
    · refine k _ H (Step.refl ho.inv) ?_
      have : cutL ds lo hi = ds := by
        unfold cutL
        rw [← r.length, hw.1, hw.2, List.drop_zero, Nat.sub_zero, r.length, List.take_length]
      rw [this]
      exact .tup h l r
    · exact k _ _ (ho.new hp) (ho.tup hp (Nat.le_trans (cutV_length _ _ _) l) (cut r))
  | lst h l r =>
    cases e
    exact .inl ⟨_, _, rfl, h.sq, fun p hp => k _ _ (ho.new hp) (ho.lst hp (Nat.le_trans (cutV_length _ _ _) l) (cut r))⟩
  | str w =>
    have e : (if w.length ≤ sizeLine then some (D.str (cutS w lo hi)) else none) = some z := e
    split at e
    · rename_i hw
      cases e
      exact .inr (.inr ⟨w, rfl, hw, k _ H (Step.refl ho.inv) (.str _)⟩)
    · cases e
  | _ => cases e
theorem de_sl {g : G} {a : Expr} {lo hi : Option Expr} {ma : WE} {ml mh : WO} {p2 pos : Pos} (ha : DE g a ma) (hl : DO g lo ml) (hh : DO g hi mh) : DE g (.Subscript a (.Slice lo hi none p2) pos) (eSl ma ml mh) := by
  obtain ⟨ta, pa⟩ := ha
  obtain ⟨tl, pl⟩ := hl
  obtain ⟨th, ph⟩ := hh
  refine ⟨fun E => tSl (rSlAny g.K) (ta E) (tl E) (th E), fun y ok => ⟨pe_slice (sl_list.or (sl_tupA.or sl_str)) (pa y ok).1 (pl y ok).1 (ph y ok).1, ?_⟩⟩
  intro c0 c ad H0 s H rr R Q cf bd hm k
  refine (pa y ok).2 c0 c ad H0 s H rr _ _ cf (bd1 (bd1 bd)) hm fun x v H1 hx s1 a1 => ?_
  have cf1 := cf.step s1
  refine (pl y ok).2 c0 c ad H0 s H1 rr _ _ cf1 (bd2 (bd1 bd) s1.3) hx fun l H2 hx2 s2 => ?_
  have cf2 := cf1.step s2
  refine (ph y ok).2 c0 c ad H0 s H2 rr _ _ cf2 (bd3 bd s1.3 s2.3) hx2 fun h H3 hx3 s3 => ?_
  have cf3 := cf2.step s3
  obtain ⟨z, e, hR⟩ := hx3
  exact s_sl cf3.ho ((a1.evo (cf1.evo s2)).evo (cf2.evo s3)) e fun v' H' s4 a4 => k z v' H' hR (((s1.trans s2).trans s3).trans s4) a4
/-- list + list, whatever they are -/
def rCatS (K : PySem.W.Frag) : R2 := fun x y H Q => ∃ l b xs zs, x = .ref l ∧ y = .ref b ∧ SqL K H l xs ∧ SqL K H b zs ∧ xs.length + zs.length ≤ sizeLine ∧ ∀ p, H p = none → Q (.ref p) (upd H p (.lst (xs ++ zs)))
theorem op_catS {X : Cx} : OpR X (binaryOp .Add) (rCatS X.K) := by
  intro pins s σ H x y v u Q I rx ry h
  obtain ⟨l, b, xs, zs, rfl, rfl, hH, hB, hz, q⟩ := h
  cases rx
  cases ry
  obtain ⟨its, r, ⟨⟨cls, dd, data, sl⟩, n, ho, hc, hd, hdat⟩, _⟩ := I.list hH
  obtain ⟨its2, r2, ⟨⟨cls2, dd2, data2, sl2⟩, n2, ho2, hc2, hd2, hdat2⟩, _⟩ := I.list hB
  simp only at hc hd hdat hc2 hd2 hdat2
  subst hc hd hdat hc2 hd2 hdat2
  have hl := r.length
  have hl2 := r2.length
  have e : its.toArray ++ its2.toArray = (its ++ its2).toArray := by simp
  refine concat_meets ⟨_, ho, rfl⟩ ⟨_, ho2, rfl⟩ noFill_list_add seq_list_add PySem.F.slot_list_add PySem.F.entry_list_add (PySem.F.args_list_add_2 _ _) (list_addW l b its.toArray its2.toArray n n2 none none sl sl2 (by simp only [List.size_toArray]; omega)) ⟨ho, ho2, ?_⟩
  rw [e]
  exact ⟨.ref _, _, I.lnew (t' := s.toks) (r.append r2) (by rw [List.length_append]; omega), rfl, q _ I.fresh⟩
def addI : D → D → Option D := i2 fun i j => some (.int (i + j))
def addS (x y : D) : Option D := match x with
  | .str a => match y with
    | .str b => if a.length + b.length ≤ sizeLine then some (.str (a ++ b)) else none
    | _ => none
  | _ => none
def addT (x y : D) : Option D := match x with
  | .tup a => match y with
    | .tup b => if a.length + b.length ≤ sizeLine then some (.tup (a ++ b)) else none
    | _ => none
  | _ => none
def addL (x y : D) : Option D := match x with
  | .lst a => match y with
    | .lst b => if a.length + b.length ≤ sizeLine then some (.lst (a ++ b)) else none
    | _ => none
  | _ => none
def addD (x y : D) : Option D := (addI x y).or ((addS x y).or ((addT x y).or (addL x y)))
def rAddA (K : PySem.W.Frag) : R2 := fun x y H Q => rI0 (fun i j => .int (i + j)) x y H Q ∨ (∃ i j, x = .str i ∧ y = .str j ∧ i.length + j.length ≤ sizeLine ∧ Q (.str (i ++ j)) H) ∨ rCatA K x y H Q ∨ rCatS K x y H Q
theorem op_addA {X : Cx} : OpR X (binaryOp .Add) (rAddA X.K) := op_add.or (op_add_str.or (op_catA.or op_catS))
theorem s_add {K : PySem.W.Frag} : SemO K addD (rAddA K) := by
  have h1 : SemO K addS (fun x y H Q => ∃ i j, x = .str i ∧ y = .str j ∧ i.length + j.length ≤ sizeLine ∧ Q (.str (i ++ j)) H) := by
    intro c H v u x y z Q ho a b e k
    cases a with
    | str i => cases b with
      | str j =>
        have e : (if i.length + j.length ≤ sizeLine then some (D.str (i ++ j)) else none) = some z := e
        split at e
        · rename_i hl
          cases e
          exact ⟨i, j, rfl, rfl, hl, k _ H (Step.refl ho.inv) (.str _)⟩
        · cases e
      | _ => cases e
    | _ => cases e
  have h2 : SemO K addT (rCatA K) := by
    intro c H v u x y z Q ho a b e k
    cases a with
    | @tup _ xs ds h l r => cases b with
      | @tup _ ys es h2 l2 r2 =>
        have e : (if ds.length + es.length ≤ sizeLine then some (D.tup (ds ++ es)) else none) = some z := e
        split at e
        · rename_i hl
          cases e
          refine ⟨_, _, xs, ys, rfl, rfl, h.sq, h2.sq, by rw [r.length, r2.length]; exact hl, fun q => ?_, fun _ q => ?_, fun _ _ p hp => ?_⟩
          · subst q
            cases r
            exact k _ H (Step.refl ho.inv) (.tup h2 l2 r2)
          · subst q
            cases r2
            rw [List.append_nil] at k
            exact k _ H (Step.refl ho.inv) (.tup h l r)
          · exact k _ _ (ho.new hp) (ho.tup hp (by rw [List.length_append, r.length, r2.length]; exact hl) (r.append r2))
        · cases e
      | _ => cases e
    | _ => cases e
  have h3 : SemO K addL (rCatS K) := by
    intro c H v u x y z Q ho a b e k
    cases a with
    | @lst _ xs ds h l r => cases b with
      | @lst _ ys es h2 l2 r2 =>
        have e : (if ds.length + es.length ≤ sizeLine then some (D.lst (ds ++ es)) else none) = some z := e
        split at e
        · rename_i hl
          cases e
          exact ⟨_, _, xs, ys, rfl, rfl, h.sq, h2.sq, by rw [r.length, r2.length]; exact hl, fun p hp => k _ _ (ho.new hp) (ho.lst hp (by rw [List.length_append, r.length, r2.length]; exact hl) (r.append r2))⟩
        · cases e
      | _ => cases e
    | _ => cases e
  exact sem_i0.or (h1.or (h2.or h3))
end DS
/-! DS6: a def's own lists and dicts; calls by keywords. -/
namespace DS
open PySem PySem.Spec PyProof.Rows L2

/-! ### own lists and dicts -/
def Env.at (r : Env) (i : Nat) (x : Sl) : Env := { r with sl := r.sl.set i x }
section
variable {K : PySem.W.Frag} {c0 c : Co} {ad : Nat → Addr} {H0 H H' : Hp} {E : XK} {s : L2.St} {r : Env} {i : Nat} {p : Addr} {x x' : Sl}
/-- a new object lies apart from all that is in the slots -/
structure Apart (c : Co) (ad : Nat → Addr) (H0 : Hp) (r : Env) (p : Addr) : Prop where
  h0 : H0 p = none
  n1 : p ≠ c.sd
  n2 : p ≠ c.sg
  n3 : p ≠ c.sl
  ne : ∀ j z, r.sl[j]? = some z → z.own → ad j ≠ p
theorem Cf.isApart (h : Cf K c0 c ad H0 E s H r) (hp : H p = none) : Apart c ad H0 r p := by
  obtain ⟨g, cl, l, t, z1, z2, z3, _⟩ := h.inv
  refine ⟨h.st.free0 hp, (ne_of_none z1 hp).symm, (ne_of_none z2 hp).symm, (ne_of_none z3 hp).symm, fun j z e o w => ?_⟩
  obtain ⟨u, e1⟩ := h.dom _ (h.own j z e o).1
  rw [w, hp] at e1; cases e1
theorem Cf.evoApart {n : Nat} (h : Cf K c0 c ad H0 E s H r) (hp : H p = none) (q : Step n c H H') : Evo c H (c.with p) H' :=
  ⟨rfl, fun b o e n => ⟨q.2 b o e (fun z => n (z ▸ h.osd)) fun z => n (z ▸ h.osg), fun z => z.elim n fun z => ne_of_none e hp z⟩⟩
theorem Cf.apart {n : Nat} (h : Cf K c0 c ad H0 E s H r) (hp : H p = none) (q : Step n c H H') {u : HO} (hu : H' p = some u) : Cf K c0 (c.with p) ad H0 E s H' r := by
  have ev := h.evoApart hp q
  have h1 := h.step q
  exact { sd := h.sd, sg := h.sg, scl := h.scl, dom0 := h.dom0, le := fun b hb => .inl (h.le b hb), st := h1.st, osd := .inl h.osd, osg := .inl h.osg, ex := h.ex, inj := h.inj, len := h.len
          dom := fun b hb => hb.elim (h1.dom b) fun z => ⟨u, by rw [z]; exact hu⟩
          own := fun j z e o => ⟨.inl (h.own j z e o).1, (h.own j z e o).2⟩
          sl := fun j z e => (h.sl j z e).evo ev fun o u w => q.2 _ _ w (h.own j z e o).2.2.1 (h.own j z e o).2.2.2.1 }
/-- it is kept in slot i -/
theorem Cf.settle (h : Cf K c0 (c.with p) ad H0 E s H r) (ap : Apart c ad H0 r p) (hi : i < r.sl.length) (ho : x.own) (ob : ObAt K (c.with p) H p x) :
    Cf K c0 (c.with p) (fun j => if j = i then p else ad j) H0 E (s.set i (some (.ref p))) H (r.at i x) := by
  refine { sd := h.sd, sg := h.sg, scl := h.scl, dom0 := h.dom0, le := h.le, st := h.st, osd := h.osd, osg := h.osg, ex := h.ex, dom := h.dom, own := ?_, inj := ?_, sl := ?_, len := ?_ }
  · intro j z e o
    rw [show (r.at i x).sl = r.sl.set i x from rfl, List.getElem?_set] at e
    by_cases hij : i = j
    · subst hij
      show (c.with p).O (if i = i then p else ad i) ∧ H0 (if i = i then p else ad i) = none ∧ (if i = i then p else ad i) ≠ _ ∧ (if i = i then p else ad i) ≠ _ ∧ (if i = i then p else ad i) ≠ _
      rw [if_pos rfl]
      exact ⟨.inr rfl, ap.h0, ap.n1, ap.n2, ap.n3⟩
    · rw [if_neg hij] at e
      show (c.with p).O (if j = i then p else ad j) ∧ H0 (if j = i then p else ad j) = none ∧ (if j = i then p else ad j) ≠ _ ∧ (if j = i then p else ad j) ≠ _ ∧ (if j = i then p else ad j) ≠ _
      rw [if_neg (Ne.symm hij)]
      exact h.own j z e o
  · intro j l z w e e2 o o2 w2
    rw [show (r.at i x).sl = r.sl.set i x from rfl, List.getElem?_set] at e e2
    have w2 : (if j = i then p else ad j) = (if l = i then p else ad l) := w2
    by_cases hj : i = j
    · by_cases hl : i = l
      · rw [← hj, ← hl]
      · rw [if_neg hl] at e2
        rw [if_pos hj.symm, if_neg (Ne.symm hl)] at w2
        exact absurd w2.symm (ap.ne l w e2 o2)
    · rw [if_neg hj] at e
      by_cases hl : i = l
      · rw [if_neg (Ne.symm hj), if_pos hl.symm] at w2
        exact absurd w2 (ap.ne j z e o)
      · rw [if_neg hl] at e2
        rw [if_neg (Ne.symm hj), if_neg (Ne.symm hl)] at w2
        exact h.inj j l z w e e2 o o2 w2
  · intro j z e
    rw [show (r.at i x).sl = r.sl.set i x from rfl, List.getElem?_set] at e
    by_cases hij : i = j
    · subst hij
      rw [if_pos rfl, if_pos hi] at e
      cases e
      show SlAt K _ _ (if i = i then p else ad i) _ _
      rw [if_pos rfl, List.getElem?_set, if_pos rfl, if_pos (by rw [h.len]; exact hi)]
      refine ⟨fun _ => ⟨rfl, ob⟩, fun d w => ?_⟩
      subst w
      exact ho.elim
    · rw [if_neg hij] at e
      show SlAt K _ _ (if j = i then p else ad j) _ _
      rw [if_neg (Ne.symm hij), List.getElem?_set, if_neg hij]
      exact h.sl j z e
  · show (s.set i _).length = (r.sl.set i x).length
    rw [List.length_set, List.length_set]
    exact h.len
theorem Cf.take {n : Nat} (h : Cf K c0 c ad H0 E s H r) (hi : i < r.sl.length) (ho : x.own) (hp : H p = none) (q : Step n c H H') (ob : ObAt K (c.with p) H' p x) :
    Cf K c0 (c.with p) (fun j => if j = i then p else ad j) H0 E (s.set i (some (.ref p))) H' (r.at i x) ∧ Evo c H (c.with p) H' := by
  obtain ⟨u, hu⟩ := ob.dom ho
  exact ⟨(h.apart hp q hu).settle (h.isApart hp) hi ho ob, h.evoApart hp q⟩
/-- slot i's object is changed -/
theorem Cf.mut (h : Cf K c0 c ad H0 E s H r) (e : r.sl[i]? = some x) (ho : x.own) (ho' : x'.own) {o' : HO} (ob : ObAt K c (upd H (ad i) o') (ad i) x') : Cf K c0 c ad H0 E s (upd H (ad i) o') (r.at i x') ∧ Evo c H c (upd H (ad i) o') := by
  obtain ⟨hO, h0, n1, n2, n3⟩ := h.own i x e ho
  have ev : Evo c H c (upd H (ad i) o') := ⟨rfl, fun b u e n => ⟨by rw [upd_ne (show b ≠ ad i from fun z => n (by rw [z]; exact hO))]; exact e, n⟩⟩
  refine ⟨{ sd := h.sd, sg := h.sg, scl := h.scl, dom0 := h.dom0, le := h.le, osd := h.osd, osg := h.osg, ex := h.ex, st := ?_, dom := ?_, own := ?_, inj := ?_, sl := ?_, len := ?_ }, ev⟩
  · obtain ⟨⟨g, cl, l, t, e1, e2, e3, q⟩, k⟩ := h.st
    have m1 : c0.sd ≠ ad i := by rw [← h.sd]; exact n1.symm
    have m2 : c0.sg ≠ ad i := by rw [← h.sg]; exact n2.symm
    have m3 : c0.sl ≠ ad i := by rw [← h.scl]; exact n3.symm
    refine ⟨⟨g, cl, l, t, by rw [upd_ne m1]; exact e1, by rw [upd_ne m2]; exact e2, by rw [upd_ne m3]; exact e3, q⟩, fun b u e m1 m2 => ?_⟩
    rw [upd_ne (ne_of_none e h0)]
    exact k b u e m1 m2
  · intro b hb
    by_cases e : b = ad i
    · exact ⟨o', by rw [e]; exact upd_same⟩
    · rw [upd_ne e]; exact h.dom b hb
  · intro j z e2 o
    rw [show (r.at i x').sl = r.sl.set i x' from rfl, List.getElem?_set] at e2
    by_cases hij : i = j
    · subst hij; exact h.own i x e ho
    · rw [if_neg hij] at e2; exact h.own j z e2 o
  · intro j l z w e2 e3 o o2 w2
    rw [show (r.at i x').sl = r.sl.set i x' from rfl, List.getElem?_set] at e2 e3
    by_cases hj : i = j
    · subst hj
      by_cases hl : i = l
      · exact hl
      · rw [if_neg hl] at e3; exact h.inj i l x w e e3 ho o2 w2
    · rw [if_neg hj] at e2
      by_cases hl : i = l
      · subst hl; exact h.inj j i z x e2 e o ho w2
      · rw [if_neg hl] at e3; exact h.inj j l z w e2 e3 o o2 w2
  · intro j z e2
    rw [show (r.at i x').sl = r.sl.set i x' from rfl, List.getElem?_set] at e2
    by_cases hij : i = j
    · subst hij
      rw [if_pos rfl] at e2
      split at e2
      · cases e2
        refine ⟨fun _ => ⟨((h.sl i x e).1 ho).1, ob⟩, fun d w => ?_⟩
        subst w
        exact ho'.elim
      · cases e2
    · rw [if_neg hij] at e2
      refine (h.sl j z e2).evo ev fun o u w => ?_
      rw [upd_ne fun w => hij (h.inj j i z x e2 e o ho w).symm]
      exact w
  · show s.length = (r.sl.set i x').length
    rw [List.length_set]
    exact h.len
/-- an own list is given up: from here on it is plain data -/
def Co.less (c : Co) (p : Addr) : Co := { c with O := fun b => c.O b ∧ b ≠ p }
theorem Cf.give (h : Cf K c0 c ad H0 E s H r) {ds : List D} (e : r.sl[i]? = some (.ol ds)) : Cf K c0 (c.less (ad i)) ad H0 E s H (r.at i (.sh (.lst ds))) ∧ Evo c H (c.less (ad i)) H := by
  obtain ⟨hO, h0, n1, n2, n3⟩ := h.own i _ e trivial
  have ev : Evo c H (c.less (ad i)) H := ⟨rfl, fun b u e n => ⟨e, fun z => n z.1⟩⟩
  refine ⟨{ sd := h.sd, sg := h.sg, scl := h.scl, dom0 := h.dom0, le := fun b hb => ⟨h.le b hb, fun z => let ⟨u, q⟩ := h.dom0 b hb; ne_of_none q h0 z⟩, osd := ⟨h.osd, n1.symm⟩, osg := ⟨h.osg, n2.symm⟩, ex := h.ex, st := h.st, dom := fun b hb => h.dom b hb.1, own := ?_, inj := ?_, sl := ?_, len := ?_ }, ev⟩
  · intro j z e2 o
    rw [show (r.at i (.sh (.lst ds))).sl = r.sl.set i (.sh (.lst ds)) from rfl, List.getElem?_set] at e2
    by_cases hij : i = j
    · subst hij
      rw [if_pos rfl] at e2
      split at e2
      · cases e2; exact o.elim
      · cases e2
    · rw [if_neg hij] at e2
      have := h.own j z e2 o
      exact ⟨⟨this.1, fun w => hij (h.inj j i z _ e2 e o trivial w).symm⟩, this.2⟩
  · intro j l z w e2 e3 o o2 w2
    rw [show (r.at i (.sh (.lst ds))).sl = r.sl.set i (.sh (.lst ds)) from rfl, List.getElem?_set] at e2 e3
    split at e2
    · split at e2
      · cases e2; exact o.elim
      · cases e2
    · split at e3
      · split at e3
        · cases e3; exact o2.elim
        · cases e3
      · exact h.inj j l z w e2 e3 o o2 w2
  · intro j z e2
    rw [show (r.at i (.sh (.lst ds))).sl = r.sl.set i (.sh (.lst ds)) from rfl, List.getElem?_set] at e2
    by_cases hij : i = j
    · subst hij
      rw [if_pos rfl] at e2
      split at e2
      · cases e2
        obtain ⟨e1, xs, e3, l, a⟩ := (h.sl i _ e).1 trivial
        rw [e1]
        exact .sh (.lst (.inl ⟨.inl e3, fun z => z.2 rfl⟩) l (a.evo ev))
      · cases e2
    · rw [if_neg hij] at e2
      exact (h.sl j z e2).evo ev fun o u w => w
  · show s.length = (r.sl.set i _).length
    rw [List.length_set]
    exact h.len
end
end DS
/-! DS7: statements about own lists and dicts; calls by keywords. -/
namespace DS
open PySem PySem.Spec PyProof.Rows L2

def DF (g : G) (e : Expr) (m : WF) : Prop := ∃ t : XK → TE, ∀ y, g.Ok y → PE (g.cx y) e (t y.E) ∧ SemF g.K y.E m (t y.E)
def fLst (a : WA) : WF := ⟨fun r R => a r fun ds => ds.length ≤ sizeLine ∧ R (.ol ds), a.n⟩
section
variable {g : G} {e : Expr} {es : List Expr} {ma : WA} {pos : Pos}
theorem df_lst (h : DA g es ma) : DF g (.List es pos) (fLst ma) := by
  obtain ⟨t, p⟩ := h
  refine ⟨fun E => tLst (t E), fun y ok => ⟨pe_lst (p y ok).1, ?_⟩⟩
  intro c0 c ad H0 s H rr R Q cf bd hm k
  refine (p y ok).2 c0 c ad H0 s H rr _ _ cf bd hm fun ds vs H1 hx _ s1 a1 => ?_
  have l : vs.length ≤ sizeLine := by rw [a1.length]; exact hx.1
  exact ⟨l, fun q hq => k _ _ _ hx.2 trivial (s1.free0 hq) (s1.trans (Step.new (n := 0) s1.1 hq)) ⟨vs, upd_same, l, a1.evo (evo_with hq)⟩⟩
theorem df_dicK : DF g (.Dict [] [] pos) ⟨fun _ R => R (.ok []), 0⟩ :=
  ⟨fun E => tDNewK, fun y ok => ⟨pe_dnewK, fun c0 c ad H0 s H rr R Q cf bd hm k q hq => k _ _ _ hm trivial hq (Step.new cf.inv hq) ⟨[], upd_same, by decide, .nil⟩⟩⟩
theorem df_dicT : DF g (.Dict [] [] pos) ⟨fun _ R => R (.ot []), 0⟩ :=
  ⟨fun E => tDNewT, fun y ok => ⟨pe_dnewT, fun c0 c ad H0 s H rr R Q cf bd hm k q hq => k _ _ _ hm trivial hq (Step.new cf.inv hq) ⟨[], upd_same, by decide, .nil⟩⟩⟩
theorem df_lc {elt tg iter : Expr} {ifs : List Expr} {scope : Scope} {mi : WI} {mg : WG} {mc : WT} {me : WE} {ws : List Nat} (own : List (Str × Nat)) (hi : DI g tg iter mi) (hb : blkC g.N g.sc scope own = true) (hg : DG (g.blk scope) tg mg ws) (ht : DTs (g.blk scope) ifs mc)
    (he : DE (g.blk scope) elt me) (hv : ∀ i ∈ ws, i ∈ own.map (·.2) := by decide) (hs : ∀ env x, foldedSetIterable iter env x = pure x := by intro _ _; rfl) : DF g (.ListComp elt [⟨tg, iter, ifs, 0⟩] scope pos) (fLc mi mg mc me (own.map (·.2))) := by
  obtain ⟨ti, pi⟩ := hi
  obtain ⟨tg', pg⟩ := hg
  obtain ⟨tt, pt⟩ := ht
  obtain ⟨te, pe⟩ := he
  refine ⟨fun E => tLc (ti E) (tg' E) (tt E) (te E) (own.map (·.2)), fun y ok => ⟨?_, ?_⟩⟩
  · refine pe_lc (X := g.cx y) rfl ok.nd (pi y ok).1 (blkOk_by (by show blkC g.N y.env.scope scope own = true; rw [ok.sc]; exact hb)) (fun s H C cl fp => (pg _ (blk_ok ok s H C cl fp)).1) (fun s H C cl fp => (pt _ (blk_ok ok s H C cl fp)).1) (fun s H C cl fp => (pe _ (blk_ok ok s H C cl fp)).1) (hs _)
  · have ok' := blk_ok (scope := scope) ok y.s0 y.H0 y.env.locals [] []
    exact sem_flc hv (pi y ok).2 (pg _ ok').2 (pt _ ok').2 (pe _ ok').2
end
/-! ### x = a new one -/
def sOwn (i : Nat) (m : WF) : WS := ⟨fun W r => m r fun x => i < r.sl.length ∧ W.nx (r.at i x), m.n⟩
theorem sem_own {K : PySem.W.Frag} {E : XK} {i : Nat} {m : WF} {t : TE} (h : SemF K E m t) : SemS K E (sOwn i m) (tAsg t (gName i)) := by
  intro c0 c ad H0 s H r W X cf bd hm k
  refine h c0 c ad H0 s H r _ _ cf bd hm fun x p H' hR o hp s1 ob => ?_
  obtain ⟨cf', ev⟩ := cf.take hR.1 o hp s1 ob
  exact k.nx _ _ _ H' _ ev s1.3 hR.2 cf'
section
variable {g : G} {e : Expr} {m : WF} {pos pos' : Pos}
theorem ds_own (i : Nat) {x : Str} (he : DF g e m) (hi : g.N[i]? = some x := by rfl) (hx : g.sc.names.lookup x = some .local ∨ g.sc.names.lookup x = some .cell := by first | exact Or.inl rfl | exact Or.inr rfl)
    (hs : ∀ env, swapsWith e (some (.Name x pos')) pos.line env = pure false := by intro _; rfl) (hf : g.fn x = true ∨ g.sc.names.lookup x = some .local := by first | exact Or.inl rfl | exact Or.inr rfl) : DSt g (.Assign [.Name x pos'] e pos) (sOwn i m) :=
  let ⟨t, p⟩ := he; ⟨fun E => tAsg (t E) (gName i), fun y ok => ⟨ps_set (X := g.cx y) ok.nd hi (ok.loc hx) (p y ok).1 (hs _) (ok.hf hf), sem_own (p y ok).2⟩⟩
theorem ds_ownLc {elt tg iter : Expr} {ifs : List Expr} {scope : Scope} {mi : WI} {mg : WG} {mc : WT} {me : WE} {ws : List Nat} (own : List (Str × Nat)) (i : Nat) {y : Str} {py spos : Pos} (hi : DI g tg iter mi) (hb : blkC g.N g.sc scope own = true) (hg : DG (g.blk scope) tg mg ws) (ht : DTs (g.blk scope) ifs mc)
    (he : DE (g.blk scope) elt me) (hv : ∀ i ∈ ws, i ∈ own.map (·.2) := by decide)
    (hN : g.N[i]? = some y := by rfl) (hy : g.sc.names.lookup y = some .local := by rfl) (hk : g.sc.kind = .function := by rfl) (hl : (py.line == pos.line) = true := by rfl) (ha : (scope.names.any fun (n, k) => n == y && (k == .local || k == .cell)) = false := by decide +kernel)
    (hs : ∀ env x, foldedSetIterable iter env x = pure x := by intro _ _; rfl) : DSt g (.Assign [.Name y py] (.ListComp elt [⟨tg, iter, ifs, 0⟩] scope pos) spos) (sOwn i (fLc mi mg mc me (own.map (·.2)))) := by
  obtain ⟨ti, pi⟩ := hi
  obtain ⟨tg', pg⟩ := hg
  obtain ⟨tt, pt⟩ := ht
  obtain ⟨te, pe⟩ := he
  refine ⟨fun E => tAsg (tLc (ti E) (tg' E) (tt E) (te E) (own.map (·.2))) (gName i), fun z ok => ⟨?_, ?_⟩⟩
  · refine ps_setLc (X := g.cx z) rfl ok.nd hN (by show z.env.scope.names.lookup y = _; rw [ok.sc]; exact hy) (sw_true (by show z.env.scope.kind = _; rw [ok.sc]; exact hk) (by show z.env.scope.names.lookup y = _; rw [ok.sc]; exact hy) hl ha) (pi z ok).1
      (blkOk_by (by show blkC g.N z.env.scope scope own = true; rw [ok.sc]; exact hb)) (fun s H C cl fp => (pg _ (blk_ok ok s H C cl fp)).1) (fun s H C cl fp => (pt _ (blk_ok ok s H C cl fp)).1) (fun s H C cl fp => (pe _ (blk_ok ok s H C cl fp)).1) (hs _)
  · have ok' := blk_ok (scope := scope) ok z.s0 z.H0 z.env.locals [] []
    exact sem_own (sem_flc hv (pi z ok).2 (pg _ ok').2 (pt _ ok').2 (pe _ ok').2)
end
/-- x, y = a new one, e -/
def sParO (i j : Nat) (m : WF) (me : WE) : WS := ⟨fun W r => m r fun x => me r fun d => i < r.sl.length ∧ W.nx ((r.at i x).put j d), m.n + me.n⟩
theorem sem_parO {K : PySem.W.Frag} {E : XK} {i j : Nat} {m : WF} {me : WE} {t te : TE} (h : SemF K E m t) (he : SemE K E me te) : SemS K E (sParO i j m me) (tPar i j (tCons t (tCons te tNil))) := by
  intro c0 c ad H0 s H r W X cf bd hm k
  refine h c0 c ad H0 s H r _ _ cf (bd1 bd) hm fun x p H1 hx o hp s1 ob => ?_
  obtain ⟨u, e1⟩ := ob.dom o
  have cf1 := cf.apart hp s1 e1
  have ap := cf.isApart hp
  refine he c0 _ ad H0 s H1 r _ _ cf1 (bd2 bd s1.3) hx fun d v H2 hR s2 a2 => ?_
  have ob2 : ObAt K (c.with p) H2 p x := ob.evo (cf1.evo s2) fun o q => s2.2 _ _ q ap.n1 ap.n2
  have cf2 := ((cf1.step s2).settle ap hR.1 o ob2).put j a2
  exact ⟨.ref p, v, rfl, k.nx _ _ _ H2 _ ((cf.evoApart hp s1).trans (cf1.evo s2)) (up5 s1.3 s2.3) hR.2 cf2⟩
theorem ds_parO {g : G} (i j : Nat) {x y : Str} {a b : Expr} {m : WF} {me : WE} {px py pt pos : Pos} {kt k2 pt2} (ha : DF g a m) (hb : DE g b me) (hij : i ≠ j := by decide) (hi : g.N[i]? = some x := by rfl) (hj : g.N[j]? = some y := by rfl)
    (hx : g.sc.names.lookup x = some .local := by rfl) (hy : g.sc.names.lookup y = some .local := by rfl)
    (hsa : ∀ env, starEach [a, b] env = (false, eval a env) :: starEach [b] env := by intro _; rfl) (hsb : ∀ env, starEach [b] env = (false, eval b env) :: starEach [] env := by intro _; rfl)
    (hw : ∀ env : PySem.Env, env.scope = g.sc → swappedStores [.Tuple [.Name x px, .Name y py] kt pt] (.Tuple [a, b] k2 pt2) env = pure (some [x, y]) := by
      intro env h
      unfold swappedStores
      first | rfl | (simp only [Env.kindOf, Env.blockKind, h]; rfl) | (simp only [Env.kindOf, Env.blockKind, h]; decide +kernel))
    (hs : ∀ env, swapsWithSole [.Tuple [.Name x px, .Name y py] kt pt] (.Tuple [a, b] k2 pt2) pos.line env = pure false := by intro _; rfl) :
    DSt g (.Assign [.Tuple [.Name x px, .Name y py] kt pt] (.Tuple [a, b] k2 pt2) pos) (sParO i j m me) :=
  let ⟨t, p⟩ := ha; let ⟨t2, p2⟩ := hb; ⟨fun E => tPar i j (tCons (t E) (tCons (t2 E) tNil)), fun z ok => ⟨ps_par (X := g.cx z) rfl ok.nd hi hj hij (by show z.env.scope.names.lookup x = _; rw [ok.sc]; exact hx) (by show z.env.scope.names.lookup y = _; rw [ok.sc]; exact hy)
    (pa_cons (p z ok).1 (pa_cons (p2 z ok).1 pa_nil (hsb _)) (hsa _)) (hw _ ok.sc) (hs _), sem_parO (p z ok).2 (p2 z ok).2⟩⟩

/-! ### they are changed -/
def sApp (i : Nat) (m : WE) : WS := ⟨fun W r => ∃ ds, r.sl[i]? = some (.ol ds) ∧ m r fun d => ds.length < sizeLine ∧ W.nx (r.at i (.ol (ds ++ [d]))), m.n⟩
section
variable {g : G} {e : Expr} {m : WE} {pos : Pos}
theorem visOf {y : Dyn} (ok : g.Ok y) {x : Str} (h : g.sc.names.lookup x = some .local ∨ g.sc.names.lookup x = some .cell ∨ g.sc.names.lookup x = some .free) : Vis (g.cx y).env.scope x := by
  show Vis y.env.scope x
  unfold Vis
  rw [ok.sc]
  exact h
theorem ds_app (i : Nat) {x : Str} {p1 p2 p3 : Pos} (he : DE g e m) (hN : g.N[i]? = some x := by rfl) (hv : g.sc.names.lookup x = some .local ∨ g.sc.names.lookup x = some .cell ∨ g.sc.names.lookup x = some .free := by first | exact Or.inl rfl | exact Or.inr (Or.inl rfl) | exact Or.inr (Or.inr rfl))
    (hd : (x == ("__debug__" : Str)) = false := by decide) (hcd : (x == ("__classdict__" : Str)) = false := by decide) (hse : ∀ env, starEach [e] env = (false, eval e env) :: starEach [] env := by intro _; rfl) (hline : (p2.endLine == p3.line) = true := by rfl)
    (hbase : ∀ env, attributeBase (.Name x p1) "append" env (eval (.Name x p1) env) = eval (.Name x p1) env := by intro _; rfl)
    (hfew : ∀ env, ((backTo p3 (starEach [e] env)).all (fun x => !x.1) && (backToKw p3 (keywordEach [] env)).all (fun x => x.1.isSome) && decide ([e].length + ([] : List Keyword).length + (if ([] : List Keyword).isEmpty then 0 else 1) < 30)) = true := by intro _; rfl)
    (hs : ∀ env, swapsWith (.Call (.Attribute (.Name x p1) "append" p2) [e] [] p3) none pos.line env = pure false := by intro _; rfl) : DSt g (.Expr (.Call (.Attribute (.Name x p1) "append" p2) [e] [] p3) pos) (sApp i m) := by
  obtain ⟨t, p⟩ := he
  refine ⟨fun E => tDrop (tBM g.K "list" rAppend (tVar i) (tCons (t E) tNil)), fun y ok => ⟨ps_expr (pe_bm PySem.F.plainAttrs_list PySem.F.slot_list_append PySem.F.type_list_append mt_append (pe_var (X := g.cx y) hN (visOf ok hv) hd hcd) (pa_cons (p y ok).1 pa_nil (hse _)) (hbase _) (hfew _) hline (hse _) rfl) (hs _), ?_⟩⟩
  intro c0 c ad H0 s H r W X cf bd ⟨ds, e1, hm⟩ k
  obtain ⟨e2, xs, e3, l, a⟩ := (cf.sl i _ e1).1 trivial
  refine ⟨.ref (ad i), e2, .inl ⟨rfl, xs, SqL.of e3⟩, ?_⟩
  refine (p y ok).2 c0 c ad H0 s H r _ _ cf bd hm fun d v H1 hR s1 a1 => ?_
  have cf1 := cf.step s1
  obtain ⟨_, xs, e3, l, a⟩ := (cf1.sl i _ e1).1 trivial
  have lx : xs.length < sizeLine := by rw [a.length]; exact hR.1
  refine ⟨ad i, xs, v, rfl, rfl, e3, lx, ?_⟩
  have hne : ∀ b o, H1 b = some o → ¬ c.O b → (upd H1 (ad i) (.lst (xs ++ [v]))) b = some o := fun b o q n => by
    rw [upd_ne (show b ≠ ad i from fun z => n (by rw [z]; exact (cf1.own i _ e1 trivial).1))]; exact q
  have ev : Evo c H1 c (upd H1 (ad i) (.lst (xs ++ [v]))) := ⟨rfl, fun b o q n => ⟨hne b o q n, n⟩⟩
  obtain ⟨cf2, ev2⟩ := cf1.mut (x' := .ol (ds ++ [d])) e1 trivial trivial (o' := .lst (xs ++ [v])) ⟨xs ++ [v], upd_same, by rw [List.length_append, List.length_singleton]; omega, (a.append (.cons a1 .nil)).evo ev⟩
  exact k.nx c ad s _ _ ((cf.evo s1).trans ev2) (by rw [trn_same (upd_ne (Ne.symm (cf1.own i _ e1 trivial).2.2.1))]; exact s1.3) hR.2 cf2
/-- x[e] = v, x an own list -/
def sPut (i : Nat) (me m : WE) : WS := ⟨fun W r => m r fun d => ∃ ds, r.sl[i]? = some (.ol ds) ∧ me r fun z => ∃ n j, z = .int n ∧ ixN ds.length n = some j ∧ W.nx (r.at i (.ol (ds.set j d))), m.n + me.n⟩
theorem AtL.set {K : PySem.W.Frag} {c : Co} {H : Hp} {v : V} {d : D} (a : At K c H v d) : ∀ {vs : List V} {ds : List D} (j : Nat), AtL K c H vs ds → AtL K c H (vs.set j v) (ds.set j d)
  | _, _, _, .nil => .nil
  | _, _, 0, .cons _ t => .cons a t
  | _, _, j + 1, .cons h t => .cons h (AtL.set a j t)
theorem ds_put (i : Nat) {x : Str} {ix : Expr} {me : WE} {p1 p2 : Pos} (he : DE g e m) (hix : DE g ix me) (hN : g.N[i]? = some x := by rfl) (hv : g.sc.names.lookup x = some .local ∨ g.sc.names.lookup x = some .cell ∨ g.sc.names.lookup x = some .free := by first | exact Or.inl rfl | exact Or.inr (Or.inl rfl) | exact Or.inr (Or.inr rfl))
    (hd : (x == ("__debug__" : Str)) = false := by decide) (hcd : (x == ("__classdict__" : Str)) = false := by decide)
    (ha : ∀ env v, assign (.Subscript (.Name x p1) ix p2) env v = (do
      let ov ← holding [v] (eval (.Name x p1) env)
      let iv ← holding [v, ov] (eval ix env)
      standAt p2
      holding [v, ov, iv] (setItem ov iv v)
      release [v, ov, iv] []) := by intro _ _; rfl)
    (hs : ∀ env, swapsWithSole [.Subscript (.Name x p1) ix p2] e pos.line env = pure false := by intro _; rfl) (hw : ∀ env, swappedStores [.Subscript (.Name x p1) ix p2] e env = pure none := by intro _; rfl)
    (h1 : ∀ env, (assignEach [.Subscript (.Name x p1) ix p2] env).map (·.2) = [assign (.Subscript (.Name x p1) ix p2) env] := by intro _; rfl) : DSt g (.Assign [.Subscript (.Name x p1) ix p2] e pos) (sPut i me m) := by
  obtain ⟨t, p⟩ := he
  obtain ⟨t2, q2⟩ := hix
  refine ⟨fun E => tAsg (t E) (gSub (tVar i) (t2 E) rSetL), fun y ok => ⟨ps_asg (p y ok).1 (pg_sub (pe_var (X := g.cx y) hN (visOf ok hv) hd hcd) (q2 y ok).1 set_list (ha _)) (hs _) (hw _) (h1 _), ?_⟩⟩
  intro c0 c ad H0 s H r W X cf bd hm k
  refine (p y ok).2 c0 c ad H0 s H r _ _ cf (bd1 bd) hm fun d v H1 hR s1 a1 => ?_
  have cf1 := cf.step s1
  obtain ⟨ds, e1, hR⟩ := hR
  obtain ⟨e2, xs, e3, l, a⟩ := (cf1.sl i _ e1).1 trivial
  refine ⟨.ref (ad i), e2, ?_⟩
  refine (q2 y ok).2 c0 c ad H0 s H1 r _ _ cf1 (bd2 bd s1.3) hR fun z w H2 hz s2 a2 => ?_
  have cf2 := cf1.step s2
  obtain ⟨n, j, rfl, hj, hz⟩ := hz
  cases a2
  obtain ⟨_, xs, e3, l, a⟩ := (cf2.sl i _ e1).1 trivial
  refine ⟨ad i, xs, n, j, rfl, rfl, e3, by rw [a.length]; exact hj, ?_⟩
  have ev : Evo c H2 c (upd H2 (ad i) (.lst (xs.set j v))) := ⟨rfl, fun b o q n => ⟨by rw [upd_ne (show b ≠ ad i from fun z => n (by rw [z]; exact (cf2.own i _ e1 trivial).1))]; exact q, n⟩⟩
  obtain ⟨cf3, ev3⟩ := cf2.mut (x' := .ol (ds.set j d)) e1 trivial trivial (o' := .lst (xs.set j v)) ⟨xs.set j v, upd_same, by rw [List.length_set]; exact l, (AtL.set (a1.evo (cf1.evo s2)) j a).evo ev⟩
  exact k.nx c ad s _ _ (((cf.evo s1).trans (cf1.evo s2)).trans ev3) (by rw [trn_same (upd_ne (Ne.symm (cf2.own i _ e1 trivial).2.2.1))]; exact up5 s1.3 s2.3) hz cf3
/-- x[e], x an own list -/
def eOwnIx (i : Nat) (me : WE) : WE := ⟨fun r R => ∃ ds, r.sl[i]? = some (.ol ds) ∧ me r fun z => ∃ n d, z = .int n ∧ atI ds n = some d ∧ R d, me.n⟩
theorem de_ownIx (i : Nat) {x : Str} {p1 : Pos} (hix : DE g e m) (hN : g.N[i]? = some x := by rfl) (hv : g.sc.names.lookup x = some .local ∨ g.sc.names.lookup x = some .cell ∨ g.sc.names.lookup x = some .free := by first | exact Or.inl rfl | exact Or.inr (Or.inl rfl) | exact Or.inr (Or.inr rfl))
    (hd : (x == ("__debug__" : Str)) = false := by decide) (hcd : (x == ("__classdict__" : Str)) = false := by decide) (hs : PlainIx e := by intro _ _; rfl) : DE g (.Subscript (.Name x p1) e pos) (eOwnIx i m) := by
  obtain ⟨t, p⟩ := hix
  refine ⟨fun E => tOp (rIxL g.K) (tVar i) (t E), fun y ok => ⟨pe_ix ix_list (pe_var (X := g.cx y) hN (visOf ok hv) hd hcd) (p y ok).1 hs, ?_⟩⟩
  intro c0 c ad H0 s H r R Q cf bd ⟨ds, e1, hm⟩ k
  obtain ⟨e2, xs, e3, l, a⟩ := (cf.sl i _ e1).1 trivial
  refine ⟨.ref (ad i), e2, ?_⟩
  refine (p y ok).2 c0 c ad H0 s H r _ _ cf bd hm fun z v H1 hR s1 a1 => ?_
  have cf1 := cf.step s1
  obtain ⟨n, d, rfl, hj, hz⟩ := hR
  cases a1
  obtain ⟨_, xs, e3, l, a⟩ := (cf1.sl i _ e1).1 trivial
  obtain ⟨w, e4, a4⟩ := a.atI hj
  exact ⟨ad i, xs, n, w, rfl, rfl, SqL.of e3, e4, k d w H1 hz s1 a4⟩
/-- an own list is given up behind a statement -/
def sGive (i : Nat) (m : WS) : WS := ⟨fun W r => ∃ ds, r.sl[i]? = some (.ol ds) ∧ m W (r.at i (.sh (.lst ds))), m.n⟩
theorem ds_give (i : Nat) {rest : List Stmt} {m : WS} (h : DSs g rest m) : DSs g rest (sGive i m) := by
  obtain ⟨t, p⟩ := h
  refine ⟨t, fun y ok => ⟨(p y ok).1, ?_⟩⟩
  intro c0 c ad H0 s H r W X cf bd ⟨ds, e1, hm⟩ k
  obtain ⟨cf1, ev⟩ := cf.give e1
  exact (p y ok).2 c0 _ ad H0 s H _ W X cf1 bd hm (k.evo ev (Nat.le_refl _))
end

/-! ### own dicts whose keys are tuples of numbers and texts -/
def getKV {κ α : Type} [DecidableEq κ] (kvs : List (κ × α)) (k : κ) : Option α := (kvs.find? fun kv => decide (kv.1 = k)).map (·.2)
def putKV {κ α : Type} [DecidableEq κ] (kvs : List (κ × α)) (k : κ) (v : α) : List (κ × α) :=
  if (kvs.any fun kv => decide (kv.1 = k)) = true then kvs.map (fun kv => if kv.1 = k then (kv.1, v) else kv) else kvs ++ [(k, v)]
section
variable {K : PySem.W.Frag} {c : Co} {H : Hp} {κ : Type} [DecidableEq κ]
theorem KvAt.get {us : List (κ × V)} {kvs : List (κ × D)} (h : KvAt K c H us kvs) {k : κ} {d : D} (e : getKV kvs k = some d) : ∃ v, valV us k = some v ∧ At K c H v d := by
  induction h with
  | nil => cases e
  | @cons k' v d' us kvs a h ih =>
    by_cases hk : k' = k
    · have e : ((((k', d') :: kvs).find? fun kv => decide (kv.1 = k)).map (·.2)) = some d := e
      rw [List.find?_cons_of_pos (by simpa using hk)] at e
      cases e
      exact ⟨v, by unfold valV; rw [List.find?_cons_of_pos (by simpa using hk)]; rfl, a⟩
    · have e : ((((k', d') :: kvs).find? fun kv => decide (kv.1 = k)).map (·.2)) = some d := e
      rw [List.find?_cons_of_neg (by simpa using hk)] at e
      obtain ⟨v2, e2, a2⟩ := ih e
      exact ⟨v2, by unfold valV at e2 ⊢; rw [List.find?_cons_of_neg (by simpa using hk)]; exact e2, a2⟩
theorem KvAt.any {us : List (κ × V)} {kvs : List (κ × D)} (h : KvAt K c H us kvs) (k : κ) : (us.any fun kv => decide (kv.1 = k)) = kvs.any fun kv => decide (kv.1 = k) := by
  induction h with
  | nil => rfl
  | cons a h ih => rw [List.any_cons, List.any_cons, ih]
theorem KvAt.snoc {us : List (κ × V)} {kvs : List (κ × D)} (h : KvAt K c H us kvs) {k : κ} {v : V} {d : D} (a : At K c H v d) : KvAt K c H (us ++ [(k, v)]) (kvs ++ [(k, d)]) := by
  induction h with
  | nil => exact .cons a .nil
  | cons b h ih => exact .cons b ih
theorem KvAt.over {us : List (κ × V)} {kvs : List (κ × D)} (h : KvAt K c H us kvs) {k : κ} {v : V} {d : D} (a : At K c H v d) : KvAt K c H (us.map fun kv => if kv.1 = k then (kv.1, v) else kv) (kvs.map fun kv => if kv.1 = k then (kv.1, d) else kv) := by
  induction h with
  | nil => exact .nil
  | @cons k' v' d' us kvs b h ih =>
    rw [List.map_cons, List.map_cons]
    by_cases hk : k' = k
    · rw [if_pos hk, if_pos hk]; exact .cons a ih
    · rw [if_neg hk, if_neg hk]; exact .cons b ih
theorem KvAt.put {us : List (κ × V)} {kvs : List (κ × D)} (h : KvAt K c H us kvs) {k : κ} {v : V} {d : D} (a : At K c H v d) : KvAt K c H (putK us k v) (putKV kvs k d) := by
  unfold putK putKV
  rw [h.any]
  split
  · exact h.over a
  · exact h.snoc a
end
/-- a key as data -/
def keyD : Key → D
  | .inl i => .int i
  | .inr x => .str x
theorem key_at {K : PySem.W.Frag} {c : Co} {H : Hp} {k : Key} {v : V} (a : At K c H v (keyD k)) : v = kV k := by
  cases k with
  | inl i => cases a; rfl
  | inr x => cases a; rfl
theorem keys_at {K : PySem.W.Frag} {c : Co} {H : Hp} : ∀ {k : List Key} {vs : List V}, AtL K c H vs (k.map keyD) → vs = k.map kV
  | [], _, .nil => rfl
  | k :: ks, _, .cons h t => by rw [key_at h, keys_at t]; rfl
/-- x[(e, ..)] = v -/
def sPutT (i : Nat) (ma : WA) (m : WE) : WS := ⟨fun W r => m r fun d => ∃ kvs, r.sl[i]? = some (.ot kvs) ∧ ma r fun ds => ∃ k : List Key, ds = k.map keyD ∧ ds.length ≤ sizeLine ∧ kvs.length < sizeLine ∧ W.nx (r.at i (.ot (putKV kvs k d))), m.n + ma.n⟩
def eGetT (i : Nat) (ma : WA) : WE := ⟨fun r R => ∃ kvs, r.sl[i]? = some (.ot kvs) ∧ ma r fun ds => ∃ (k : List Key) (d : D), ds = k.map keyD ∧ ds.length ≤ sizeLine ∧ getKV kvs k = some d ∧ R d, ma.n⟩
section
variable {g : G} {e : Expr} {es : List Expr} {m : WE} {ma : WA} {pos : Pos}
theorem ds_putT (i : Nat) {x : Str} {p1 p2 p3 : Pos} {x1} (he : DE g e m) (hk : DA g es ma) (hN : g.N[i]? = some x := by rfl) (hv : g.sc.names.lookup x = some .local ∨ g.sc.names.lookup x = some .cell ∨ g.sc.names.lookup x = some .free := by first | exact Or.inl rfl | exact Or.inr (Or.inl rfl) | exact Or.inr (Or.inr rfl))
    (hd : (x == ("__debug__" : Str)) = false := by decide) (hcd : (x == ("__classdict__" : Str)) = false := by decide)
    (hs : ∀ env, swapsWith e (some (.Subscript (.Name x p1) (.Tuple es x1 p3) p2)) pos.line env = pure false := by intro _; rfl) : DSt g (.Assign [.Subscript (.Name x p1) (.Tuple es x1 p3) p2] e pos) (sPutT i ma m) := by
  obtain ⟨t, p⟩ := he
  obtain ⟨t2, q2⟩ := hk
  refine ⟨fun E => sDPut (tVar i) (tTup (t2 E)) (t E), fun y ok => ⟨ps_dput (hu_of ok.room) (pe_var (X := g.cx y) hN (visOf ok hv) hd hcd) (pe_tup (q2 y ok).1) (p y ok).1 (hs _), ?_⟩⟩
  intro c0 c ad H0 s H r W X cf bd hm k
  refine (p y ok).2 c0 c ad H0 s H r _ _ cf (bd1 bd) hm fun d v H1 hR s1 a1 => ?_
  have cf1 := cf.step s1
  obtain ⟨kvs, e1, hR⟩ := hR
  obtain ⟨e2, us, e3, l, a⟩ := (cf1.sl i _ e1).1 trivial
  refine ⟨.ref (ad i), e2, ?_⟩
  refine (q2 y ok).2 c0 c ad H0 s H1 r _ _ cf1 (bd2 bd s1.3) hR fun ds vs H2 hz _ s2 a2 => ?_
  have cf2 := cf1.step s2
  obtain ⟨ks, rfl, hl, hl2, hz⟩ := hz
  have hvs := keys_at a2
  subst hvs
  refine ⟨by rw [List.length_map]; rw [List.length_map] at hl; exact hl, fun b hb => ?_⟩
  have s3 : Step 0 c H2 (upd H2 b (.tup (ks.map kV))) := Step.new cf2.inv hb
  have cf3 := cf2.step s3
  obtain ⟨_, us, e3, l, a⟩ := (cf3.sl i _ e1).1 trivial
  refine ⟨ad i, _, rfl, DPut.t e3 upd_same (by rw [a.length]; exact hl2), ?_⟩
  have ev : Evo c (upd H2 b (.tup (ks.map kV))) c (upd (upd H2 b (.tup (ks.map kV))) (ad i) (.dT (putK us ks v))) := ⟨rfl, fun b o q n => ⟨by rw [upd_ne (show b ≠ ad i from fun z => n (by rw [z]; exact (cf3.own i _ e1 trivial).1))]; exact q, n⟩⟩
  have hsz : (putK us ks v).length ≤ sizeLine := by
    unfold putK
    split
    · rw [List.length_map]; exact l
    · rw [List.length_append, List.length_singleton, a.length]; omega
  obtain ⟨cf4, ev4⟩ := cf3.mut (x' := .ot (putKV kvs ks d)) e1 trivial trivial (o' := .dT (putK us ks v)) ⟨_, upd_same, hsz, (a.put ((a1.evo (cf1.evo s2)).evo (cf2.evo s3))).evo ev⟩
  exact k.nx c ad s _ _ ((((cf.evo s1).trans (cf1.evo s2)).trans (cf2.evo s3)).trans ev4) (by rw [trn_same (upd_ne (Ne.symm (cf3.own i _ e1 trivial).2.2.1)), trn_new cf2.inv hb]; exact up5 s1.3 s2.3) hz cf4
theorem de_getT (i : Nat) {x : Str} {p1 p3 : Pos} {x1} (hk : DA g es ma) (hN : g.N[i]? = some x := by rfl) (hv : g.sc.names.lookup x = some .local ∨ g.sc.names.lookup x = some .cell ∨ g.sc.names.lookup x = some .free := by first | exact Or.inl rfl | exact Or.inr (Or.inl rfl) | exact Or.inr (Or.inr rfl))
    (hd : (x == ("__debug__" : Str)) = false := by decide) (hcd : (x == ("__classdict__" : Str)) = false := by decide) (hs : NoSl (.Tuple es x1 p3) := by intro _ _; rfl) : DE g (.Subscript (.Name x p1) (.Tuple es x1 p3) pos) (eGetT i ma) := by
  obtain ⟨t2, q2⟩ := hk
  refine ⟨fun E => tDGet (tVar i) (tTup (t2 E)), fun y ok => ⟨pe_dget (hu_of ok.room) (pe_var (X := g.cx y) hN (visOf ok hv) hd hcd) (pe_tup (q2 y ok).1) hs, ?_⟩⟩
  intro c0 c ad H0 s H r R Q cf bd ⟨kvs, e1, hm⟩ k
  obtain ⟨e2, us, e3, l, a⟩ := (cf.sl i _ e1).1 trivial
  refine ⟨.ref (ad i), e2, ?_⟩
  refine (q2 y ok).2 c0 c ad H0 s H r _ _ cf bd hm fun ds vs H2 hz _ s2 a2 => ?_
  have cf2 := cf.step s2
  obtain ⟨ks, d, rfl, hl, hg, hz⟩ := hz
  have hvs := keys_at a2
  subst hvs
  refine ⟨by rw [List.length_map]; rw [List.length_map] at hl; exact hl, fun b hb => ?_⟩
  have s3 : Step 0 c H2 (upd H2 b (.tup (ks.map kV))) := Step.new cf2.inv hb
  have cf3 := cf2.step s3
  obtain ⟨_, us, e3, l, a⟩ := (cf3.sl i _ e1).1 trivial
  obtain ⟨v, ev, av⟩ := a.get hg
  refine ⟨ad i, v, rfl, ?_, k d v _ hz (s2.trans s3) av⟩
  have := DGet.t e3 (upd_same (H := H2) (a := b) (o := .tup (ks.map kV)))
  rw [ev] at this
  exact this
end
/-! ### what is unpacked -/
def sUnp (m : WE) (mg : WG) : WS := ⟨fun W r => m r fun d => mg d r fun r' => W.nx r', m.n⟩
theorem ds_unp {g : G} {tg e : Expr} {m : WE} {mg : WG} {ws : List Nat} {pos : Pos} (he : DE g e m) (hg : DG g tg mg ws)
    (hw : ∀ env : PySem.Env, env.scope = g.sc → swappedStores [tg] e env = pure none := by
      intro env h
      unfold swappedStores
      first | rfl | (simp only [Env.kindOf, Env.blockKind, h]; rfl) | (simp only [Env.kindOf, Env.blockKind, h]; decide +kernel))
    (hs : ∀ env, swapsWithSole [tg] e pos.line env = pure false := by intro _; rfl) (h1 : ∀ env, (assignEach [tg] env).map (·.2) = [assign tg env] := by intro _; rfl) : DSt g (.Assign [tg] e pos) (sUnp m mg) := by
  obtain ⟨t, p⟩ := he
  obtain ⟨t2, p2⟩ := hg
  refine ⟨fun E => tAsg (t E) (t2 E), fun y ok => ⟨ps_asg (p y ok).1 (p2 y ok).1 (hs _) (hw _ ok.sc) (h1 _), ?_⟩⟩
  intro c0 c ad H0 s H r W X cf bd hm k
  refine (p y ok).2 c0 c ad H0 s H r _ _ cf bd hm fun d v H1 hR s1 a1 => ?_
  exact (p2 y ok).2 c0 c ad H0 s H1 r v d _ _ (cf.step s1) a1 hR fun s' r' hr' cf' _ _ => k.nx c ad s' H1 r' (cf.evo s1) s1.3 hr' cf'
theorem sem_unpO {K : PySem.W.Frag} {E : XK} {i j : Nat} {m : WF} {me : WE} {t te : TE} (h : SemF K E m t) (he : SemE K E me te) : SemS K E (sParO i j m me) (tAsg (tTup (tCons t (tCons te tNil))) (gTup K 2 (gCons (gName i) (gCons (gName j) gNil)))) := by
  intro c0 c ad H0 s H r W X cf bd hm k
  refine h c0 c ad H0 s H r _ _ cf (bd1 bd) hm fun x p H1 hx o hp s1 ob => ?_
  obtain ⟨u, e1⟩ := ob.dom o
  have cf1 := cf.apart hp s1 e1
  have ap := cf.isApart hp
  refine he c0 _ ad H0 s H1 r _ _ cf1 (bd2 bd s1.3) hx fun d v H2 hR s2 a2 => ?_
  refine ⟨by show 2 ≤ sizeLine; decide, fun q hq => ?_⟩
  have cf2 := cf1.step s2
  have s3 : Step 0 (c.with p) H2 (upd H2 q (.tup [.ref p, v])) := Step.new cf2.inv hq
  have ob2 : ObAt K (c.with p) (upd H2 q (.tup [.ref p, v])) p x := (ob.evo (cf1.evo s2) fun o q => s2.2 _ _ q ap.n1 ap.n2).evo (cf2.evo s3) fun o q => s3.2 _ _ q ap.n1 ap.n2
  have cf3 := ((cf2.step s3).settle ap hR.1 o ob2).put j (a2.evo (cf2.evo s3))
  have le : trn c.sd (upd H2 q (.tup [.ref p, v])) = trn c.sd H2 := trn_new cf2.inv hq
  refine ⟨q, _, rfl, .inl (.inl upd_same), rfl, _, _, rfl, _, _, rfl, rfl, k.nx _ _ _ _ _ (((cf.evoApart hp s1).trans (cf1.evo s2)).trans (cf2.evo s3)) ?_ hR.2 cf3⟩
  show trn c.sd _ ≤ _
  rw [le]
  exact up5 s1.3 s2.3
theorem ds_unpO {g : G} (i j : Nat) {x y : Str} {a b : Expr} {m : WF} {me : WE} {px py pt pos : Pos} {kt k2 pt2} (ha : DF g a m) (hb : DE g b me) (hi : g.N[i]? = some x := by rfl) (hj : g.N[j]? = some y := by rfl)
    (hx : g.sc.names.lookup x = some .local ∨ g.sc.names.lookup x = some .cell := by first | exact Or.inl rfl | exact Or.inr rfl) (hy : g.sc.names.lookup y = some .local ∨ g.sc.names.lookup y = some .cell := by first | exact Or.inl rfl | exact Or.inr rfl)
    (hf : g.fn x = true ∨ g.sc.names.lookup x = some .local := by first | exact Or.inl rfl | exact Or.inr rfl) (hf2 : g.fn y = true ∨ g.sc.names.lookup y = some .local := by first | exact Or.inl rfl | exact Or.inr rfl)
    (hsa : ∀ env, starEach [a, b] env = (false, eval a env) :: starEach [b] env := by intro _; rfl) (hsb : ∀ env, starEach [b] env = (false, eval b env) :: starEach [] env := by intro _; rfl)
    (hw : ∀ env : PySem.Env, env.scope = g.sc → swappedStores [.Tuple [.Name x px, .Name y py] kt pt] (.Tuple [a, b] k2 pt2) env = pure none := by
      intro env h
      unfold swappedStores
      first | rfl | (simp only [Env.kindOf, Env.blockKind, h]; rfl) | (simp only [Env.kindOf, Env.blockKind, h]; decide +kernel))
    (hs : ∀ env, swapsWithSole [.Tuple [.Name x px, .Name y py] kt pt] (.Tuple [a, b] k2 pt2) pos.line env = pure false := by intro _; rfl)
    (h1 : ∀ env, (assignEach [.Tuple [.Name x px, .Name y py] kt pt] env).map (·.2) = [assign (.Tuple [.Name x px, .Name y py] kt pt) env] := by intro _; rfl) :
    DSt g (.Assign [.Tuple [.Name x px, .Name y py] kt pt] (.Tuple [a, b] k2 pt2) pos) (sParO i j m me) :=
  let ⟨t, p⟩ := ha; let ⟨t2, p2⟩ := hb; ⟨fun E => tAsg (tTup (tCons (t E) (tCons (t2 E) tNil))) (gTup g.K 2 (gCons (gName i) (gCons (gName j) gNil))), fun z ok =>
    ⟨ps_asg (pe_tup (pa_cons (p z ok).1 (pa_cons (p2 z ok).1 pa_nil (hsb _)) (hsa _))) (pg_tup rfl (pgs_cons (pg_name (X := g.cx z) ok.nd hi (ok.loc hx) (ok.hf hf)) (pgs_cons (pg_name (X := g.cx z) ok.nd hj (ok.loc hy) (ok.hf hf2)) pgs_nil))) (hs _) (hw _ ok.sc) (h1 _),
      sem_unpO (p z ok).2 (p2 z ok).2⟩⟩
end DS
/-! DS8: x[::-1], tuples times numbers, keywords, two fors. -/
namespace DS
open PySem PySem.Spec PyProof.Rows L2

section
variable {prog : Program} {w : World} {A : Around} {E : Value → Shared → Prop} {s : Shared}
theorem sliceApplied_rev {sl : Addr} {t : Tok} {n : Nat} {Q : Int × Int × Nat → Shared → Prop} (hs : s.heap.IsSliceOf sl .none .none (.int (-1) t)) (h : Q ((n : Int) - 1, -1, n) s) :
    wpAny (model prog w) A (Builtin.Slice.sliceApplied (.ref sl) (pure (n : Int))) Q E s := by
  obtain ⟨os, hos, hcs, hds⟩ := id hs
  unfold Builtin.Slice.sliceApplied Builtin.Slice.sliceFields
  refine wpAny_bind (wpAny_bind (wpAny_field hos hds (x := .none) rfl (wpAny_bind (wpAny_field hos hds (x := .none) rfl (wpAny_bind (wpAny_field hos hds (x := .int (-1) t) rfl (wpAny_pure ?_)))))))
  refine wpAny_bind (HT.slicePart_ (.int (-1) t) ?_)
  show wpAny _ _ (if ((-1 : Int) == 0) = true then _ else _) _ _ s
  rw [if_neg (by decide)]
  refine wpAny_bind (HT.slicePart_ .none (wpAny_bind (HT.slicePart_ .none (wpAny_bind (wpAny_pure ?_)))))
  have e1 : Builtin.Slice.sliceAdjust none none (-1) (n : Int) = ((n : Int) - 1, -1) := by
    unfold Builtin.Slice.sliceAdjust
    simp
  have e2 : Builtin.Slice.slicePlaces ((n : Int) - 1) (-1) (-1) = n := by
    unfold Builtin.Slice.slicePlaces
    simp
    split <;> omega
  show wpAny _ _ (match Builtin.Slice.sliceAdjust none none (-1) (n : Int) with | (lo, hi) => pure (lo, (-1 : Int), Builtin.Slice.slicePlaces lo hi (-1))) _ _ s
  rw [e1]
  show wpAny _ _ (pure ((n : Int) - 1, (-1 : Int), Builtin.Slice.slicePlaces ((n : Int) - 1) (-1) (-1))) _ _ s
  rw [e2]
  exact wpAny_pure h
theorem pick_rev (xs : Array Value) : ((List.range xs.size).filterMap fun (m : Nat) => xs[((xs.size : Int) - 1 + (m : Int) * -1).toNat]?).toArray = xs.toList.reverse.toArray := by
  rw [← PySem.W.krv_all xs, ← List.filterMap_reverse, ← PySem.W.krv_range, List.filterMap_map]
  have key : ∀ (l : List Nat), (∀ m ∈ l, m < xs.size) → l.filterMap (fun (m : Nat) => xs[((xs.size : Int) - 1 + (m : Int) * -1).toNat]?) = l.filterMap ((xs[·]?) ∘ fun k => xs.size - 1 - k) := by
    intro l
    induction l with
    | nil => intro _; rfl
    | cons m l ih =>
      intro hl
      have hm := hl m List.mem_cons_self
      have e : ((xs.size : Int) - 1 + (m : Int) * -1).toNat = xs.size - 1 - m := by omega
      rw [List.filterMap_cons, List.filterMap_cons, ih fun k hk => hl k (List.mem_cons_of_mem _ hk), e]
      rfl
  rw [key _ fun m hm => List.mem_range.mp hm]
theorem getItem_tuple_rev {t sl : Addr} {items : Array Value} {tk : Tok} {Q : Value → Shared → Prop} (ht : IsTup s.heap t items) (hs : s.heap.IsSliceOf sl .none .none (.int (-1) tk))
    (h : Q (.ref s.heap.objs.size) { s with heap := s.heap.push { cls := .type "tuple", data := .seq items.toList.reverse.toArray } }) (hsz : items.size ≤ sizeLine) : wpAny (model prog w) A (getItem (.ref t) (.ref sl)) Q E s := by
  have htake : sizeOk (.seq items.toList.reverse.toArray) := by
    show items.toList.reverse.toArray.size ≤ sizeLine
    rw [List.size_toArray, List.length_reverse, Array.length_toList]
    exact hsz
  obtain ⟨os, hos, hcs, hds⟩ := id hs
  have hTs : s.TypeIs (.ref sl) "slice" := ⟨os, hos, hcs⟩
  unfold getItem
  try with_reducible refine wpAny_holding ?_
  first | refine wpAny_bind (wpAny_pure ?_) | skip
  refine wpAny_bind (wpAny_sequenceKey ht.typeIs (by decide) ?_)
  refine wpAny_bind (wpAny_callSpecial?_slot (name := Str.ofString "__getitem__") ht.typeIs PyProof.Rows.slot_tuple_getitem
    (wpAny_call_entry PyProof.Rows.slot_tuple_getitem ht.typeIs entry_tuple_getitem ?_ (args_tuple_getitem _ _)))
  show wpAny _ _ (Builtin.Tuple.tupleItemsOf (.ref t) >>= _) _ _ s
  refine wpAny_bind (tupleItemsOf_ ht ?_)
  refine wpAny_bind (wpAny_typeOf hTs ?_)
  rw [if_pos (by decide)]
  refine wpAny_bind (sliceApplied_rev hs ?_)
  show wpAny _ _ (if (((items.size : Int) - 1) == 0 && (-1 : Int) == 1 && items.size == items.size) = true then _ else _) _ _ s
  rw [if_neg (by simp), pick_rev]
  first
    | exact wpAny_bind (m := Builtin.Tuple.tupleExact _) (wpAny_newObj_type (wpAny_pure ⟨_, rfl, wpAny_pure h⟩) htake)
    | exact wpAny_bind (m := Builtin.Tuple.tupleExact _) (wpAny_newObj_type (wpAny_bind (wpAny_pure (wpAny_pure ⟨_, rfl, wpAny_pure h⟩))) htake)
    | exact wpAny_bind (wpAny_bind (m := Builtin.Tuple.tupleExact _) (wpAny_newObj_type (wpAny_pure (wpAny_pure ⟨_, rfl, wpAny_pure h⟩)) htake))
    | exact wpAny_bind (wpAny_bind (m := Builtin.Tuple.tupleExact _) (wpAny_newObj_type (wpAny_pure ⟨_, rfl, wpAny_pure h⟩) htake))
end
/-- t[::-1], a tuple -/
def tRevT (K : PySem.W.Frag) (te : TE) : TE := fun s H Q => te s H fun x H1 => ∃ a xs, x = .ref a ∧ SqT K H1 a xs ∧ ∀ p, H1 p = none → Q (.ref p) (upd H1 p (.tup xs.reverse))
theorem vals_reverse : ∀ {xs : List V} {us : List Value}, Vals xs us → Vals xs.reverse us.reverse
  | _, _, .nil => .nil
  | _, _, .cons r t => by rw [List.reverse_cons, List.reverse_cons]; exact (vals_reverse t).append (.cons r .nil)
theorem pe_revT {X : Cx} {e : Expr} {te : TE} {j : Nat} {p0 p1 p2 pos : Pos} (he : PE X e te) : PE X (.Subscript e (.Slice none none (some (.UnaryOp .USub (.Constant (.int 1) j p0) p1)) p2) pos) (tRevT X.K te) := by
  refine ⟨fun pins s σ H Q I h => ?_⟩
  refine Subscript_ (thn (he.run pins s σ H _ I h) fun v s1 ⟨x, H1, I1, r1, q1⟩ => ?_)
  have hst : PE X (.UnaryOp .USub (.Constant (.int 1) j p0) p1) (tUn (rU fun i => .int (-i)) (tC (.int 1))) := pe_un un_neg pe_int
  refine wpAny_Slice ?_
  rw [evalPart_none]
  refine wpAny_pure (wpAny_pure ?_)
  rw [evalPart_some]
  refine thn (hst.run pins s1 σ H1 (fun z H2 => z = .int (-1) ∧ H2 = H1) I1 ⟨1, rfl, rfl, rfl⟩) fun st s3 hz => ?_
  obtain ⟨z, H3, I3, rz, rfl, rfl⟩ := hz
  obtain ⟨tk, rfl⟩ := rz
  obtain ⟨a, xs, rfl, hx, q⟩ := q1
  cases r1
  have I4 : Inv X pins σ H3 { s3 with heap := s3.heap.push { cls := .type "slice", data := .fields #[.none, .none, .int (-1) tk] } } := I3.kept (t' := s3.toks) fun b ob q => Heap.get?_push_of_some _ q
  obtain ⟨its, r, ht, hz⟩ := I4.tuple hx
  have hlen : its.toArray.size = xs.length := by rw [List.size_toArray]; exact r.length.symm
  refine tail_any (ops := [.ref a, .ref s3.heap.objs.size]) (T := "tuple") ht.typeIs PyProof.Rows.slot_tuple_getitem.lookup ?_ (by with_unfolding_all rfl)
  refine getItem_tuple_rev (sl := s3.heap.objs.size) (tk := tk) ht ⟨_, Heap.get?_push_size _ rfl, rfl, rfl⟩ ?_ (by rw [hlen]; exact hz)
  refine ⟨.ref _, _, I4.laid (t' := s3.toks) (o := .tup xs.reverse) (fun b ob q => Heap.get?_push_of_some _ q) (Nat.le_refl _) ?_, rfl, q _ (I4.hok.fresh (Nat.le_refl _))⟩
  exact ⟨by rw [List.length_reverse]; exact hz, _, vals_reverse r, IsTup.new _ _⟩
def eRev (m : WE) : WE := ⟨fun r R => m r fun d => ∃ ds, d = .tup ds ∧ R (.tup ds.reverse), m.n⟩
theorem de_rev {g : G} {e : Expr} {m : WE} {j : Nat} {p0 p1 p2 pos : Pos} (h : DE g e m) : DE g (.Subscript e (.Slice none none (some (.UnaryOp .USub (.Constant (.int 1) j p0) p1)) p2) pos) (eRev m) := by
  obtain ⟨t, p⟩ := h
  refine ⟨fun E => tRevT g.K (t E), fun y ok => ⟨pe_revT (p y ok).1, ?_⟩⟩
  intro c0 c ad H0 s H r R Q cf bd hm k
  refine (p y ok).2 c0 c ad H0 s H r _ _ cf bd hm fun d v H1 hR s1 a1 => ?_
  obtain ⟨ds, rfl, hR⟩ := hR
  have ho := (cf.step s1).ho
  cases a1 with
  | tup h l r1 => exact ⟨_, _, rfl, h.sq, fun q hq => k _ _ _ hR (s1.trans (ho.new (n := 0) hq)) (ho.tup hq (by rw [List.length_reverse]; exact l) r1.reverse)⟩
end DS
/-! DS9: tuples times numbers, keywords, two fors, enumerate of tuples. -/
namespace DS
open PySem PySem.Spec PyProof.Rows L2

theorem tuple_mulW1 (l : Addr) (items : Array Value) (n : Nat) (sl : Array (Option Value)) (u : Tok) (dd : Option Addr) :
    Meets (Builtin.«tuple.__mul__» ⟨[.ref l, .int 1 u], []⟩) (fun _ R s => s.heap.get? l = some { cls := .type "tuple", dict := dd, data := .seq items n, slots := sl } ∧ R (.ok (.ret (Value.ref l))) s) :=
  .of_wp fun prog w A R s h => by
    obtain ⟨hp, g, d, tk, os⟩ := s
    obtain ⟨hl, h⟩ := h
    have f1 := AutoSeq1.idx_int
    wp_walk using wpAny_loadPart' hl
    repeat (first
      | (refine wpAny_ite_true (decide_eq_true (by rw [Bool.or_eq_true]; exact .inr rfl)) ?_; wp_walk using wpAny_loadPart' hl)
      | (refine wpAny_ite_true (decide_eq_true (by simp)) ?_; wp_walk using wpAny_loadPart' hl)
      | (refine wpAny_ite_false (decide_eq_false (by decide)) ?_; wp_walk using wpAny_loadPart' hl))
    exact ⟨_, rfl, h⟩
theorem op_repT1 {X : Cx} : OpR X (binaryOp .Mult) (fun x y H Q => ∃ l xs, x = .ref l ∧ y = .int 1 ∧ SqT X.K H l xs ∧ Q (.ref l) H) := by
  intro pins s σ H x y v u Q I rx ry h
  obtain ⟨l, xs, rfl, rfl, hT, q⟩ := h
  cases rx
  obtain ⟨t, rfl⟩ := ry
  obtain ⟨its, r, ⟨⟨cls, dd, data, sl⟩, ho, hc, n, hd⟩, hs⟩ := I.tuple hT
  simp only at hc hd
  subst hc hd
  exact wpAny_binaryOp_repeat_ref (T := "tuple") (U := "int") (by decide) ⟨_, ho, rfl⟩ (fun s' => typeIs_int s' 1 t) noFill_tuple_mul F.fills_int_mul F.slot_int_rmul repeat_tuple F.slot_int_index.lookup
    (call_meets F.slot_int_rmul (typeIs_int s 1 t) F.entry_int_rmul (F.args_int_rmul_2 _ _) (int_rmul_tuple 1 t l its.toArray n dd sl)
      ⟨ho, rfl, ⟨_, ho, rfl⟩, call_meets F.slot_tuple_mul ⟨_, ho, rfl⟩ F.entry_tuple_mul (F.args_tuple_mul_2 _ _) (tuple_mulW1 l its.toArray n sl t dd) ⟨ho, ⟨.ref l, H, I, rfl, q⟩⟩⟩)
def rep {α : Type} (k : Nat) (xs : List α) : List α := (List.replicate k xs).flatten
/-- a tuple so many times -/
def mulT (x y : D) : Option D := match x with
  | .tup ds => match y with
    | .int k => if ds ≠ [] ∧ 1 ≤ k ∧ k ≤ 1000 ∧ ds.length ≤ 1000 then some (.tup (rep k.toNat ds)) else none
    | _ => none
  | _ => none
def mulD (x y : D) : Option D := (mulI x y).or (mulT x y)
def rMulA (K : PySem.W.Frag) : R2 := fun x y H Q => rI CMul (fun i j => .int (i * j)) x y H Q ∨ (∃ l xs, x = .ref l ∧ y = .int 1 ∧ SqT K H l xs ∧ Q (.ref l) H) ∨ rRepT K x y H Q
theorem op_mulA {X : Cx} : OpR X (binaryOp .Mult) (rMulA X.K) := op_mul.or (op_repT1.or op_repT)
theorem AtL.rep {K : PySem.W.Frag} {c : Co} {H : Hp} {vs : List V} {ds : List D} (a : AtL K c H vs ds) : ∀ k, AtL K c H (DS.rep k vs) (DS.rep k ds)
  | 0 => .nil
  | k + 1 => by
    unfold DS.rep
    rw [List.replicate_succ, List.replicate_succ, List.flatten_cons, List.flatten_cons]
    exact a.append (AtL.rep a k)
theorem rep_len {α : Type} (k : Nat) (xs : List α) : (rep k xs).length = k * xs.length := by
  induction k with
  | zero => simp [rep]
  | succ k ih =>
    unfold rep at ih ⊢
    rw [List.replicate_succ, List.flatten_cons, List.length_append, ih, Nat.succ_mul, Nat.add_comm]
theorem s_mul {K : PySem.W.Frag} : SemO K mulD (rMulA K) := by
  have h2 : SemO K mulT (fun x y H Q => (∃ l xs, x = .ref l ∧ y = .int 1 ∧ SqT K H l xs ∧ Q (.ref l) H) ∨ rRepT K x y H Q) := by
    intro c H v u x y z Q ho a b e k
    cases a with
    | @tup a0 xs ds h l r => cases b with
      | int n =>
        have e : (if ds ≠ [] ∧ 1 ≤ n ∧ n ≤ 1000 ∧ ds.length ≤ 1000 then some (D.tup (rep n.toNat ds)) else none) = some z := e
        split at e
        · rename_i hc
          cases e
          by_cases h1 : n = 1
          · subst h1
            have e1 : rep (1 : Int).toNat ds = ds := by
              show (List.replicate 1 ds).flatten = ds
              simp
            rw [e1] at k
            exact .inl ⟨_, xs, rfl, rfl, h.sq, k _ H (Step.refl ho.inv) (.tup h l r)⟩
          · refine .inr ⟨_, n, xs, rfl, rfl, h.sq, ?_, by omega, hc.2.2.1, by rw [r.length]; exact hc.2.2.2, fun p hp => ?_⟩
            · intro q
              subst q
              cases r
              exact hc.1 rfl
            · refine k _ _ (ho.new hp) (ho.tup hp ?_ (r.rep n.toNat))
              have := rep_len n.toNat xs
              have hl := r.length
              have : n.toNat * xs.length ≤ 1000 * 1000 := Nat.mul_le_mul (by omega) (by omega)
              have e5 : (rep n.toNat xs).length = (List.replicate n.toNat xs).flatten.length := rfl
              rw [sizeLine_eq]
              omega
        · cases e
      | _ => cases e
    | _ => cases e
  exact s_mulI.or h2

/-! ### enumerate -/
theorem meets_enumerate_newT (l : Addr) (items : Array Value) (n : Nat) (dct : Option Addr) (sl : Array (Option Value)) :
    Meets (Builtin.«enumerate.__new__» ⟨[.type "enumerate", .ref l], []⟩) (fun _ R s => s.heap.get? l = some { cls := .type "tuple", dict := dct, data := .seq items n, slots := sl } ∧
      R (.ok (.ret (.ref (s.heap.push { cls := .type "tuple_iterator", data := .fields #[.ref l, .int 0 0] }).objs.size)))
        { s with heap := (s.heap.push { cls := .type "tuple_iterator", data := .fields #[.ref l, .int 0 0] }).push { cls := .type "enumerate", data := .fields #[.none, .bool false, .ref s.heap.objs.size, rawInt 0, .none, .none] } }) :=
  .of_wp fun prog w A R s h => by
    obtain ⟨hp, g, d, tk, os⟩ := s; obtain ⟨hl, h⟩ := h
    have hsub := sub_enumerate
    have hL : Heap.IsTuple (Shared.heap ⟨hp, g, d, tk, os⟩) l items := ⟨_, hl, rfl, n, rfl⟩
    wp_walk using AutoSeq1.wpAny_loadPart' hl
    refine wpAny_stack_any fun st => wpAny_pure ?_
    split
    · rename_i c _ _ _ _ _
      cases (c == Value.type "enumerate")
      · wp_walk using AutoSeq1.wpAny_loadPart' hl, wpAny_pyIter_tuple hL
        exact ⟨_, rfl, h⟩
      · wp_walk using AutoSeq1.wpAny_loadPart' hl, wpAny_pyIter_tuple hL
        exact ⟨_, rfl, h⟩
    · wp_walk using AutoSeq1.wpAny_loadPart' hl, wpAny_pyIter_tuple hL
      exact ⟨_, rfl, h⟩
theorem call_enumerate_tuple {prog : Program} {w : World} {A : Around} {E : Value → Shared → Prop} {s : Shared} {l : Addr} {items : Array Value} {Q : Value → Shared → Prop} (hL : s.heap.IsTuple l items)
    (h : ∀ h', IsEnum h' (s.heap.objs.size + 1) s.heap.objs.size 0 .none → h'.IsTupleIter s.heap.objs.size l 0 → h'.objs.size = s.heap.objs.size + 2 →
      (∀ b o, s.heap.get? b = some o → h'.get? b = some o) → Q (.ref (s.heap.objs.size + 1)) { s with heap := h' }) :
    wpAny (model prog w) A (call (.type "enumerate") [.ref l]) Q E s := by
  obtain ⟨⟨c, dct, dt, sl⟩, hl, hc, n, hd⟩ := hL
  replace hc : c = .type "tuple" := hc
  replace hd : dt = .seq items n := hd
  subst hc hd
  refine callType_new F.called_enumerate (by decide) (F.typeCall_enumerate_1 _) (F.newCall_enumerate_1 _) (fun obj => F.args_object_init_2 obj _) F.entry_enumerate_new
    (meets_enumerate_newT l items n dct sl) ⟨hl, ?_⟩
  have hz : (s.heap.push { cls := .type "tuple_iterator", data := .fields #[.ref l, .int 0 0] }).objs.size = s.heap.objs.size + 1 := Heap.size_push ..
  show _ ∧ _
  rw [hz]
  have he : IsEnum ((s.heap.push { cls := .type "tuple_iterator", data := .fields #[.ref l, .int 0 0] }).push
      { cls := .type "enumerate", data := .fields #[.none, .bool false, .ref s.heap.objs.size, rawInt 0, .none, .none] }) (s.heap.objs.size + 1) s.heap.objs.size 0 .none := by
    have := Heap.get?_push_size (s.heap.push { cls := .type "tuple_iterator", data := .fields #[.ref l, .int 0 0] })
      (o := { cls := .type "enumerate", data := .fields #[.none, .bool false, .ref s.heap.objs.size, rawInt 0, .none, .none] }) rfl
    rw [hz] at this; exact this
  refine ⟨⟨_, he, rfl⟩, h _ he ⟨_, Heap.get?_push_of_some _ (Heap.get?_push_size _ rfl), rfl, rfl⟩ (by rw [Heap.size_push, hz]) fun b o x => Heap.get?_push_of_some _ (Heap.get?_push_of_some _ x)⟩
/-- enumerate over a tuple, over a text -/
def IteT (K : PySem.W.Frag) (a : Addr) : It :=
  ⟨fun i H => ∃ (xs : List V) (x : V), SqT K H a xs ∧ xs[i]? = some x, fun i H v H' => ∃ T x, v = .ref T ∧ H T = none ∧ H' = upd H T (.tup [.int (i : Nat), x]) ∧ ∀ xs, SqT K H a xs → xs[i]? = some x, fun i H => ∃ xs : List V, SqT K H a xs ∧ xs.length ≤ i⟩
def IteS (z : Str) : It :=
  ⟨fun i H => i < z.cps.size, fun i H v H' => ∃ T c, v = .ref T ∧ H T = none ∧ H' = upd H T (.tup [.int (i : Nat), .str ⟨#[c]⟩]) ∧ z.cps[i]? = some c, fun i _ => z.cps.size ≤ i⟩
theorem turn_enumT {P : Program} {w : World} {K : PySem.W.Frag} {elts : List Expr} {kk : Nat} {tpos : Pos} (a e it : Addr) :
    Turn P w K (.Tuple elts kk tpos) (IteT K a) [e, it] e (fun i h => (∃ old, IsEnum h e it ((i : Nat) : Int) old) ∧ h.IsTupleIter it a i ∧ e ≠ it) where
  mem := by simp
  obj := fun i h st b hb => by
    obtain ⟨⟨old, he⟩, ⟨o, ho, hc, hd⟩, _⟩ := st
    have e' : b = e ∨ b = it := by simpa using hb
    rcases e' with z | z
    · rw [z]; exact ⟨_, he, fun v q => nomatch q⟩
    · rw [z]; exact ⟨o, ho, fun v q => by rw [hd] at q; cases q⟩
  keep := fun i h h' st k => let ⟨⟨old, he⟩, hi, hne⟩ := st; ⟨⟨old, k e (by simp) _ he⟩, hi.at fun o q => k it (by simp) o q, hne⟩
  item := by
    intro X hP hw hK hc i pins s σ H E I hf st hg
    subst hP hw hK
    obtain ⟨⟨old, he⟩, hit, hne⟩ := st
    obtain ⟨xs, x, hq, hx⟩ := hg
    obtain ⟨its, rv, p, hz⟩ := I.tuple hq
    obtain ⟨u, hu, ru⟩ := rv.get hx
    have hel : e < s.heap.objs.size := Heap.lt_size he
    have hil : it < s.heap.objs.size := by obtain ⟨_, q, _⟩ := hit; exact Heap.lt_size q
    have hae : a ≠ e := fun z => by
      obtain ⟨o, ho, hc', _⟩ := p
      rw [z, he] at ho
      cases ho
      exact absurd (Value.type.inj hc') (by decide)
    have hai : a ≠ it := fun z => by
      obtain ⟨o, ho, hc', _⟩ := p
      obtain ⟨o2, ho2, hc2, _⟩ := hit
      rw [z, ho2] at ho
      cases ho
      rw [hc2] at hc'
      exact absurd hc' (by decide)
    have D := Draws.tuple (prog := X.prog) (w := X.w) (A := X.A.in1) (I.ok.hd hc) it a hai its.toArray
    have hlt : i < its.toArray.size := by
      rw [List.size_toArray]
      exact (List.getElem?_eq_some_iff.mp hu).1
    refine wpAny_pyNext_enum_itemD D he ⟨hit, p⟩ hlt hne (by simp; exact ⟨hne, fun z => hae z.symm⟩) fun x' h' tk hx' ho hst' hT hsz hk => ?_
    have ex : x' = u := by
      have : its.toArray[i]? = some u := by simpa using hu
      rw [this] at hx'
      exact (Option.some.inj hx').symm
    subst ex
    refine ⟨_, rfl, wpAny_letOwnedTupleGo_enum (s := { s with heap := h', toks := tk + 1 }) ho fun h'' he' sb => ?_⟩
    have hT2 : h''.get? s.heap.objs.size = some { cls := .type "tuple", data := .seq #[.int i tk, x'] } := (sb.2 _ (Nat.ne_of_gt hel)).trans hT
    have new : ObjOk X.prog X.w (upd H s.heap.objs.size (.tup [.int (i : Nat), x])) h'' s.heap.objs.size (.tup [.int (i : Nat), x]) :=
      ⟨by show 2 ≤ sizeLine; decide, [.int i tk, x'], .cons ⟨_, rfl⟩ (.cons ru .nil), ⟨_, hT2, rfl, _, rfl⟩⟩
    have I1 : Inv X pins σ (upd H s.heap.objs.size (.tup [.int (i : Nat), x])) { s with heap := h'', toks := tk + 1 } :=
      I.turnedNew (ch := [e, it]) (fun b ob hb q => (sb.2 b (fun z => hb (by simp [z]))).trans (hk b ob (fun z => hb (by simp [z])) (fun z => hb (by simp [z])) q)) hf (Nat.le_refl _) new
    refine ⟨.ref s.heap.objs.size, _, I1, rfl, ⟨_, x, rfl, I.hok.fresh (Nat.le_refl _), rfl, fun ys hy => by rw [I.tuple_inj hy hq]; exact hx⟩, ⟨⟨x', ?_⟩, hst'.1.at fun o q => (sb.2 it (Ne.symm hne)).trans q, hne⟩, fun b hb => ?_⟩
    · have e1 : ((i + 1 : Nat) : Int) = (i : Int) + 1 := by omega
      rw [e1]; exact he'
    · have hb' : b < s.heap.objs.size := by
        have e' : b = e ∨ b = it := by simpa using hb
        rcases e' with z | z
        · rw [z]; exact hel
        · rw [z]; exact hil
      rw [upd_ne (Nat.ne_of_lt hb')]
      exact (hf b hb).1
  done := by
    intro X hP hw hK hc i pins s σ H E I hf st hg
    subst hP hw hK
    obtain ⟨⟨old, he⟩, hit, hne⟩ := st
    obtain ⟨xs, hq, hx⟩ := hg
    obtain ⟨its, rv, p, hz⟩ := I.tuple hq
    obtain ⟨f0, f1, f2, f3, f4, f5⟩ := hf it (by simp)
    have hl := rv.length
    have hai : a ≠ it := fun z => by
      obtain ⟨o, ho, hc', _⟩ := p
      obtain ⟨o2, ho2, hc2, _⟩ := hit
      rw [z, ho2] at ho
      cases ho
      rw [hc2] at hc'
      exact absurd hc' (by decide)
    have hT : s.TypeIs (.ref e) "enumerate" := ⟨_, he, rfl⟩
    unfold pyNext
    refine wpAny_bind (wpAny_attempt (wpAny_callSpecial?_slot (name := Str.ofString "__next__") hT F.slot_enumerate_next
      (wpAny_call_entry F.slot_enumerate_next hT F.entry_enumerate_next ?_ (F.args_enumerate_next_1 _))))
    show wpAny _ _ (field (.ref e) 2 >>= _) _ _ _
    refine wpAny_bind (wpAny_field he rfl (x := .ref it) rfl ?_)
    refine wpAny_bind (wpAny_nextOf_tuple_end (I.ok.hd hc) hit (show s.heap.IsTuple a its.toArray from p) (by simp; omega) fun h' x he' hx' => ?_)
    obtain ⟨o, ho, hc'⟩ := hx'
    refine wpAny_bind (wpAny_isInstance (T := "StopIteration") (b := true) ⟨o, ho, hc'⟩ isSubtype_stop ?_)
    exact wpAny_pure ⟨rfl, I.turned (t' := s.toks) (fun b o hb q => he' b o hb q) f0 f1 f3 f4 f5⟩
  self := fun A i s Q E st h => let ⟨⟨_, he⟩, _⟩ := st; wpAny_pyIter_enum he h
theorem nextOf_str_end {prog : Program} {w : World} {A : Around} {E : Value → Shared → Prop} {s : Shared} {it : Addr} {x : Str} {t : Tok} {i : Nat} {Q : Value → Shared → Prop} (hh : A.handled = none)
    (hit : s.heap.IsStrIter it (strIterType x) x t i) (hx : x.cps[i]? = none)
    (hE : ∀ h' e, Heap.ExtBut it s.heap h' → (∃ o, h'.get? e = some o ∧ o.cls = .type "StopIteration") → E (.ref e) { s with heap := h' }) :
    wpAny (model prog w) A (Builtin.SmallTypes.nextOf (.ref it)) Q E s := by
  unfold strIterType at hit
  cases h : x.cps.all (· < 128) with
  | true => rw [h] at hit; exact wpAny_nextOf_ascii_end hh hit hx hE
  | false => rw [h] at hit; exact wpAny_nextOf_wide_end hh hit hx hE
theorem turn_enumS {P : Program} {w : World} {K : PySem.W.Frag} {elts : List Expr} {kk : Nat} {tpos : Pos} (z : Str) (t : Tok) (e it : Addr) :
    Turn P w K (.Tuple elts kk tpos) (IteS z) [e, it] e (fun i h => (∃ old, IsEnum h e it ((i : Nat) : Int) old) ∧ h.IsStrIter it (strIterType z) z t i ∧ e ≠ it) where
  mem := by simp
  obj := fun i h st b hb => by
    obtain ⟨⟨old, he⟩, ⟨o, ho, hc, hd⟩, _⟩ := st
    have e' : b = e ∨ b = it := by simpa using hb
    rcases e' with z | z
    · rw [z]; exact ⟨_, he, fun v q => nomatch q⟩
    · rw [z]; exact ⟨o, ho, fun v q => by rw [hd] at q; cases q⟩
  keep := fun i h h' st k => let ⟨⟨old, he⟩, hi, hne⟩ := st; ⟨⟨old, k e (by simp) _ he⟩, let ⟨o, ho, r⟩ := hi; ⟨o, k it (by simp) o ho, r⟩, hne⟩
  item := by
    intro X hP hw hK hc i pins s σ H E I hf st hg
    subst hP hw hK
    obtain ⟨⟨old, he⟩, hit, hne⟩ := st
    have hel : e < s.heap.objs.size := Heap.lt_size he
    have hil : it < s.heap.objs.size := by obtain ⟨_, q, _⟩ := hit; exact Heap.lt_size q
    have D := Draws.text (prog := X.prog) (w := X.w) (A := X.A.in1) (I.ok.hd hc) it z t
    refine wpAny_pyNext_enum_itemD D he hit (show i < z.cps.size from hg) hne (by simpa using hne) fun x' h' tk hx' ho hst' hT hsz hk => ?_
    obtain ⟨c, u, hcc, rfl⟩ := hx'
    refine ⟨_, rfl, wpAny_letOwnedTupleGo_enum (s := { s with heap := h', toks := tk + 1 }) ho fun h'' he' sb => ?_⟩
    have hT2 : h''.get? s.heap.objs.size = some { cls := .type "tuple", data := .seq #[.int i tk, .str ⟨#[c]⟩ u] } := (sb.2 _ (Nat.ne_of_gt hel)).trans hT
    have new : ObjOk X.prog X.w (upd H s.heap.objs.size (.tup [.int (i : Nat), .str ⟨#[c]⟩])) h'' s.heap.objs.size (.tup [.int (i : Nat), .str ⟨#[c]⟩]) :=
      ⟨by show 2 ≤ sizeLine; decide, [.int i tk, .str ⟨#[c]⟩ u], .cons ⟨_, rfl⟩ (.cons ⟨_, rfl⟩ .nil), ⟨_, hT2, rfl, _, rfl⟩⟩
    have I1 : Inv X pins σ (upd H s.heap.objs.size (.tup [.int (i : Nat), .str ⟨#[c]⟩])) { s with heap := h'', toks := tk + 1 } :=
      I.turnedNew (ch := [e, it]) (fun b ob hb q => (sb.2 b (fun z => hb (by simp [z]))).trans (hk b ob (fun z => hb (by simp [z])) (fun z => hb (by simp [z])) q)) hf (Nat.le_refl _) new
    refine ⟨.ref s.heap.objs.size, _, I1, rfl, ⟨_, c, rfl, I.hok.fresh (Nat.le_refl _), rfl, hcc⟩, ⟨⟨.str ⟨#[c]⟩ u, ?_⟩, let ⟨o, ho, r⟩ := hst'; ⟨o, (sb.2 it (Ne.symm hne)).trans ho, r⟩, hne⟩, fun b hb => ?_⟩
    · have e1 : ((i + 1 : Nat) : Int) = (i : Int) + 1 := by omega
      rw [e1]; exact he'
    · have hb' : b < s.heap.objs.size := by
        have e' : b = e ∨ b = it := by simpa using hb
        rcases e' with z | z
        · rw [z]; exact hel
        · rw [z]; exact hil
      rw [upd_ne (Nat.ne_of_lt hb')]
      exact (hf b hb).1
  done := by
    intro X hP hw hK hc i pins s σ H E I hf st hg
    subst hP hw hK
    obtain ⟨⟨old, he⟩, hit, hne⟩ := st
    obtain ⟨f0, f1, f2, f3, f4, f5⟩ := hf it (by simp)
    have hT : s.TypeIs (.ref e) "enumerate" := ⟨_, he, rfl⟩
    have hN : z.cps[i]? = none := Array.getElem?_eq_none (show z.cps.size ≤ i from hg)
    unfold pyNext
    refine wpAny_bind (wpAny_attempt (wpAny_callSpecial?_slot (name := Str.ofString "__next__") hT F.slot_enumerate_next
      (wpAny_call_entry F.slot_enumerate_next hT F.entry_enumerate_next ?_ (F.args_enumerate_next_1 _))))
    show wpAny _ _ (field (.ref e) 2 >>= _) _ _ _
    refine wpAny_bind (wpAny_field he rfl (x := .ref it) rfl ?_)
    refine wpAny_bind (nextOf_str_end (I.ok.hd hc) hit hN fun h' x he' hx' => ?_)
    obtain ⟨o, ho, hc'⟩ := hx'
    refine wpAny_bind (wpAny_isInstance (T := "StopIteration") (b := true) ⟨o, ho, hc'⟩ isSubtype_stop ?_)
    exact wpAny_pure ⟨rfl, I.turned (t' := s.toks) (fun b o hb q => he' b o hb q) f0 f1 f3 f4 f5⟩
  self := fun A i s Q E st h => let ⟨⟨_, he⟩, _⟩ := st; wpAny_pyIter_enum he h
end DS
/-! DS10: enumerate; calls by keywords; two fors. -/
namespace DS
open PySem PySem.Spec PyProof.Rows L2

/-! ### enumerate -/
def iEnumA (K : PySem.W.Frag) (ta : TA) : TI := fun σ H R => ta σ H fun vs H1 => ∃ v, vs = [v] ∧ ((∃ a xs, v = .ref a ∧ SqL K H1 a xs ∧ R (Ite K a) H1) ∨ (∃ a xs, v = .ref a ∧ SqT K H1 a xs ∧ R (IteT K a) H1) ∨ (∃ z, v = .str z ∧ R (IteS z) H1))
theorem pi_enumA {X : Cx} {e : Expr} {ta : TA} {p pos tpos : Pos} {elts : List Expr} {kk : Nat} (hg : Gl X "enumerate") (hm : X.mg "enumerate" = none) (ha : PA X [e] ta) (hs : starEach [e] X.env = [(false, eval e X.env)] := by rfl) :
    PI X (.Tuple elts kk tpos) (.Call (.Name "enumerate" p) [e] [] pos) (iEnumA X.K ta) := by
  refine ⟨fun pins s σ H R I h => ?_⟩
  refine Call_ (ld_blt I hg hm boot_enumerate (PyProof.Rows.callWith_type1 (thn (ha.run pos pins s σ H _ I h) fun us s1 ⟨vs, H1, I1, r1, q1⟩ => ?_) hs rfl))
  obtain ⟨v, ex, hq⟩ := q1
  subst ex
  cases r1 with
  | cons r rr =>
    cases rr
    have fp : ∀ b, b = s1.heap.objs.size + 1 ∨ b = s1.heap.objs.size → FpOk X pins H1 b := fun b e' => by
      have hle : s1.heap.objs.size ≤ b := by
        rcases e' with z | z
        · rw [z]; exact Nat.le_add_right _ _
        · rw [z]; exact Nat.le_refl _
      exact I1.fpOk hle (I1.hok.fresh hle)
    rcases hq with ⟨a, xs, rfl, hq, q⟩ | ⟨a, xs, rfl, hq, q⟩ | ⟨z, rfl, q⟩
    · cases r
      obtain ⟨its, rv, p', hz⟩ := I1.list hq
      refine call_enumerate_list p'.isList fun h' he hit hsz hk => wpAny_pyIter_enum he ?_
      exact ⟨s1.heap.objs.size + 1, [s1.heap.objs.size + 1, s1.heap.objs.size], _, _, H1, rfl, I1.kept (t' := s1.toks) hk, turn_enum a (s1.heap.objs.size + 1) s1.heap.objs.size, ⟨⟨.none, he⟩, hit, Nat.succ_ne_self _⟩, fun b hb => fp b (by simpa using hb), q⟩
    · cases r
      obtain ⟨its, rv, p', hz⟩ := I1.tuple hq
      refine call_enumerate_tuple (items := its.toArray) p' fun h' he hit hsz hk => wpAny_pyIter_enum he ?_
      exact ⟨s1.heap.objs.size + 1, [s1.heap.objs.size + 1, s1.heap.objs.size], _, _, H1, rfl, I1.kept (t' := s1.toks) hk, turn_enumT a (s1.heap.objs.size + 1) s1.heap.objs.size, ⟨⟨.none, he⟩, hit, Nat.succ_ne_self _⟩, fun b hb => fp b (by simpa using hb), q⟩
    · obtain ⟨t, rfl⟩ := r
      refine call_enumerate_str fun h' he hit hsz hk => wpAny_pyIter_enum he ?_
      exact ⟨s1.heap.objs.size + 1, [s1.heap.objs.size + 1, s1.heap.objs.size], _, _, H1, rfl, I1.kept (t' := s1.toks) hk, turn_enumS z t (s1.heap.objs.size + 1) s1.heap.objs.size, ⟨⟨.none, he⟩, hit, Nat.succ_ne_self _⟩, fun b hb => fp b (by simpa using hb), q⟩
/-- numbered from i on -/
def numd : Nat → List D → List D
  | _, [] => []
  | i, d :: ds => .tup [.int (i : Nat), d] :: numd (i + 1) ds
theorem numd_len : ∀ (i : Nat) (ds : List D), (numd i ds).length = ds.length
  | _, [] => rfl
  | i, d :: ds => by unfold numd; rw [List.length_cons, List.length_cons, numd_len]
theorem numd_get : ∀ {i j : Nat} {ds : List D} {d : D}, (numd i ds)[j]? = some d → ∃ x, ds[j]? = some x ∧ d = .tup [.int ((i + j : Nat) : Int), x]
  | i, 0, x :: ds, d, e => by
    unfold numd at e
    rw [List.getElem?_cons_zero] at e
    cases e
    exact ⟨x, rfl, rfl⟩
  | i, j + 1, x :: ds, d, e => by
    unfold numd at e
    rw [List.getElem?_cons_succ] at e
    obtain ⟨y, e1, e2⟩ := numd_get e
    exact ⟨y, by rw [List.getElem?_cons_succ]; exact e1, by rw [e2, show i + 1 + j = i + (j + 1) by omega]⟩
  | _, _, [], _, e => by unfold numd at e; cases e
theorem it_enumL {K : PySem.W.Frag} {a : Addr} {ds : List D} (l : ds.length ≤ sizeLine) : ItOk K (Ite K a) (numd 0 ds) (fun c H => ∃ xs, NL K c H a xs ∧ AtL K c H xs ds) where
  len := by rw [numd_len]; exact l
  evo := fun c H c' H' ⟨xs, h, r⟩ e => ⟨xs, h.evo e, r.evo e⟩
  goes := fun i c H hi ⟨xs, h, r⟩ => by
    rw [numd_len] at hi
    have hi' : i < xs.length := by rw [r.length]; exact hi
    exact ⟨xs, xs[i], h.sq, List.getElem?_eq_getElem hi'⟩
  stops := fun c H ⟨xs, h, r⟩ => ⟨xs, h.sq, by rw [numd_len]; exact Nat.le_of_eq r.length⟩
  ylds := fun i c H x H' d e ⟨xs, h, r⟩ ho ⟨T, y, e1, hT, e2, e3⟩ => by
    subst e1 e2
    obtain ⟨z, f1, rfl⟩ := numd_get e
    rw [Nat.zero_add]
    exact ⟨ho.new hT, ho.tup hT (by show 2 ≤ sizeLine; decide) (.cons (.int _) (.cons (r.get (e3 xs h.sq) f1) .nil))⟩
theorem it_enumT {K : PySem.W.Frag} {a : Addr} {ds : List D} (l : ds.length ≤ sizeLine) : ItOk K (IteT K a) (numd 0 ds) (fun c H => ∃ xs, NT K c H a xs ∧ AtL K c H xs ds) where
  len := by rw [numd_len]; exact l
  evo := fun c H c' H' ⟨xs, h, r⟩ e => ⟨xs, h.evo e, r.evo e⟩
  goes := fun i c H hi ⟨xs, h, r⟩ => by
    rw [numd_len] at hi
    have hi' : i < xs.length := by rw [r.length]; exact hi
    exact ⟨xs, xs[i], h.sq, List.getElem?_eq_getElem hi'⟩
  stops := fun c H ⟨xs, h, r⟩ => ⟨xs, h.sq, by rw [numd_len]; exact Nat.le_of_eq r.length⟩
  ylds := fun i c H x H' d e ⟨xs, h, r⟩ ho ⟨T, y, e1, hT, e2, e3⟩ => by
    subst e1 e2
    obtain ⟨z, f1, rfl⟩ := numd_get e
    rw [Nat.zero_add]
    exact ⟨ho.new hT, ho.tup hT (by show 2 ≤ sizeLine; decide) (.cons (.int _) (.cons (r.get (e3 xs h.sq) f1) .nil))⟩
theorem signs_len (z : Str) : (signs z).length = z.cps.size := by unfold signs; rw [List.length_map, Array.length_toList]
theorem it_enumS {K : PySem.W.Frag} {z : Str} (l : z.length ≤ sizeLine) : ItOk K (IteS z) (numd 0 (signs z)) (fun _ _ => True) where
  len := by rw [numd_len, signs_len]; exact l
  evo := fun _ _ _ _ _ _ => trivial
  goes := fun i c H hi _ => by rw [numd_len, signs_len] at hi; exact hi
  stops := fun c H _ => by rw [numd_len, signs_len]; exact Nat.le_refl _
  ylds := fun i c H x H' d e _ ho ⟨T, y, e1, hT, e2, e3⟩ => by
    subst e1 e2
    obtain ⟨w, f1, rfl⟩ := numd_get e
    unfold signs at f1
    rw [List.getElem?_map, Array.getElem?_toList, e3] at f1
    cases f1
    rw [Nat.zero_add]
    exact ⟨ho.new hT, ho.tup hT (by show 2 ≤ sizeLine; decide) (.cons (.int _) (.cons (.str _) .nil))⟩
def itemsS : D → Option (List D)
  | .lst ds => some ds
  | .tup ds => some ds
  | .str z => some (signs z)
  | _ => none
def iEnum (ma : WA) : WI := ⟨fun r R => ma r fun ds => ∃ d l, ds = [d] ∧ itemsS d = some l ∧ l.length ≤ sizeLine ∧ R (numd 0 l), ma.n⟩
theorem di_enum {g : G} {e : Expr} {ma : WA} {p pos tpos : Pos} {elts : List Expr} {kk : Nat} (hm : g.mg "enumerate" = none) (h : DA g [e] ma) (hg : g.sc.names.lookup ("enumerate" : Str) = some .globalImplicit := by rfl) (hs : ∀ env, starEach [e] env = [(false, eval e env)] := by intro _; rfl) :
    DI g (.Tuple elts kk tpos) (.Call (.Name "enumerate" p) [e] [] pos) (iEnum ma) := by
  obtain ⟨t, q⟩ := h
  refine ⟨fun E => iEnumA g.K (t E), fun y ok => ⟨pi_enumA (X := g.cx y) (ok.gl hg) hm (q y ok).1 (hs _), ?_⟩⟩
  intro c0 c ad H0 s H r R Q cf bd hm k
  refine (q y ok).2 c0 c ad H0 s H r _ _ cf bd hm fun ds vs H' hR _ s1 a1 => ?_
  obtain ⟨d, l, rfl, e1, el, hR⟩ := hR
  cases a1 with
  | cons b1 b2 =>
    cases b2
    refine ⟨_, rfl, ?_⟩
    cases b1 with
    | lst h l r1 => cases e1; exact .inl ⟨_, _, rfl, h.sq, k _ _ _ H' hR s1 (it_enumL (by rw [← r1.length]; exact l)) ⟨_, h, r1⟩⟩
    | tup h l r1 => cases e1; exact .inr (.inl ⟨_, _, rfl, h.sq, k _ _ _ H' hR s1 (it_enumT (by rw [← r1.length]; exact l)) ⟨_, h, r1⟩⟩)
    | str z => cases e1; exact .inr (.inr ⟨_, rfl, k _ _ _ H' hR s1 (it_enumS (by rw [signs_len] at el; exact el)) trivial⟩)
    | _ => cases e1

/-! ### calls with keywords alone -/
/-- the values in another sequence -/
def picks {α : Type} (pm : List Nat) (xs : List α) : List α := pm.filterMap (xs[·]?)
theorem picks_vals {vs : List V} {us : List Value} (r : Vals vs us) : ∀ pm : List Nat, Vals (picks pm vs) (picks pm us)
  | [] => .nil
  | i :: pm => by
    unfold picks
    rw [List.filterMap_cons, List.filterMap_cons]
    by_cases h : i < vs.length
    · obtain ⟨u, e, ru⟩ := r.get (List.getElem?_eq_getElem h)
      rw [List.getElem?_eq_getElem h, e]
      exact .cons ru (picks_vals r pm)
    · rw [List.getElem?_eq_none (by omega), List.getElem?_eq_none (by rw [← r.length]; omega)]
      exact picks_vals r pm
theorem picks_at {K : PySem.W.Frag} {c : Co} {H : Hp} {vs : List V} {ds : List D} (a : AtL K c H vs ds) : ∀ pm : List Nat, AtL K c H (picks pm vs) (picks pm ds)
  | [] => .nil
  | i :: pm => by
    unfold picks
    rw [List.filterMap_cons, List.filterMap_cons]
    by_cases h : i < ds.length
    · obtain ⟨u, e, ru⟩ := a.some_of (List.getElem?_eq_getElem h)
      rw [List.getElem?_eq_getElem h, e]
      exact .cons ru (picks_at a pm)
    · rw [List.getElem?_eq_none (show vs.length ≤ i by rw [a.length]; omega), List.getElem?_eq_none (show ds.length ≤ i by omega)]
      exact picks_at a pm
structure FnKW (P : Program) (w : World) (K : PySem.W.Frag) (mg : Str → Option Value) (base : Heap) (k : Nat) (x : Str) (ks : List Str) (pm : List Nat) (n : Nat) (F : WFn) : Prop where
  ex : ∃ f fd ps, ps.length = n ∧ FnOk P w K mg base L2.CX0 k f fd ps (spW K n F) ∧ mg x = some (.ref f) ∧ PySem.W.keepIn K (.ref f) = true ∧
    ∀ (s : Shared) (ws : List Value), K.In s.heap → ws.length = ks.length → (picks pm ws).length = ps.length → BindsTo s fd ⟨[], ks.zip ws⟩ (ps.zip (picks pm ws))
theorem FnKW.mono {P : Program} {w : World} {K : PySem.W.Frag} {mg : Str → Option Value} {base : Heap} {j k : Nat} {x : Str} {ks : List Str} {pm : List Nat} {n : Nat} {F : WFn} (h : FnKW P w K mg base j x ks pm n F) (hj : j ≤ k) : FnKW P w K mg base k x ks pm n F := by
  obtain ⟨f, fd, ps, l, F1, r⟩ := h.ex
  exact ⟨⟨f, fd, ps, l, F1.mono hj, r⟩⟩
theorem FnKW.imp {P : Program} {w : World} {K : PySem.W.Frag} {mg : Str → Option Value} {base : Heap} {k : Nat} {x : Str} {ks : List Str} {pm : List Nat} {n : Nat} {F F' : WFn} (h : FnKW P w K mg base k x ks pm n F) (hn : F.n ≤ F'.n) (hi : ∀ ds R, ds.length = n → F' ds R → F ds R) : FnKW P w K mg base k x ks pm n F' := by
  obtain ⟨f, fd, ps, l, F1, r⟩ := h.ex
  exact ⟨⟨f, fd, ps, l, F1.imp fun vs H Q E ⟨c, ds, R, h1, h2, h3, hb, h4, h5⟩ => ⟨c, ds, R, h1, h2, h3, by omega, hi ds R h3 h4, fun d v H' q st => h5 d v H' q (st.mono hn)⟩, r⟩⟩
/-- the values of the keywords -/
def DK (g : G) (kws : List Keyword) (m : WA) : Prop := ∃ t : XK → TA, ∀ y, g.Ok y → PK (g.cx y) kws (t y.E) ∧ SemA g.K y.E kws.length m (t y.E)
theorem dk_nil {g : G} : DK g [] aNil := ⟨fun _ => tNil, fun _ _ => ⟨pk_nil, sem_nil⟩⟩
theorem dk_cons {g : G} {e : Expr} {kws : List Keyword} {m : WE} {ma : WA} {nm : Option Str} {kpos : Pos} (h : DE g e m) (h2 : DK g kws ma) : DK g (⟨nm, e, kpos⟩ :: kws) (aCons m ma) :=
  let ⟨t, p⟩ := h; let ⟨t2, p2⟩ := h2; ⟨fun E => tCons (t E) (t2 E), fun y ok => ⟨pk_cons (p y ok).1 (p2 y ok).1, sem_cons (p y ok).2 (p2 y ok).2⟩⟩
def tCallK0 (sp : Sp) (pm : List Nat) (n : Nat) (tk : TA) : TE := fun σ H Q => tk σ H fun zs H2 => zs.length = n ∧ sp (picks pm zs) H2 Q L2.E0
theorem pe_callK0 {X : Cx} {k : Nat} {f : Addr} {fd : FuncData} {ps ks : List Str} {pm : List Nat} {sp : Sp} {x : Str} {p pos : Pos} {kws : List Keyword} {tk : TA} (F : FnOk X.prog X.w X.K X.mg X.base L2.CX0 k f fd ps sp) (hr : Room k X.A) (hg : Gl X x) (hm : X.mg x = some (.ref f)) (hk : PySem.W.keepIn X.K (.ref f) = true)
    (hb : ∀ (s : Shared) (ws : List Value), X.K.In s.heap → ws.length = ks.length → (picks pm ws).length = ps.length → BindsTo s fd ⟨[], ks.zip ws⟩ (ps.zip (picks pm ws)))
    (hkw : PK X kws tk) (hall : (backToKw pos (keywordEach kws X.env)).all (·.1.isSome) = true) (hks : (backToKw pos (keywordEach kws X.env)).filterMap (·.1) = ks)
    (hdb : (x == ("__debug__" : Str)) = false) (hpl : ((backTo pos (starEach [] X.env)).any (·.1) || (backToKw pos (keywordEach kws X.env)).any (·.1.isNone)) = false) :
    PE X (.Call (.Name x p) [] kws pos) (tCallK0 sp pm ks.length tk) := by
  refine ⟨fun pins s σ H Q I h => ?_⟩
  refine wpAny_Call_Name_kw (ld_glob I hg hm ?_ hdb)
  refine PySem.W.callWith_KW0 (h₀ := X.base) I.ok.mod.kin hk hall (thn (hkw.run pos pins s σ H _ I h) fun ws s2 ⟨zs, H2, I2, rz, hn, q2⟩ => ⟨I2.kIn, ?_⟩) hpl
  rw [hks]
  have r2 := picks_vals rz pm
  have hl : (picks pm ws).length = ps.length := by rw [← r2.length]; exact F.len _ _ _ _ q2
  have hw : ws.length = ks.length := by rw [← rz.length]; exact hn
  refine wpAny_call (codeAny_mono (F.run X.A X.stack s2 H2 ⟨[], ks.zip ws⟩ (picks pm ws) (picks pm zs) Q L2.E0 hr I2.env0 (hb s2 ws I2.kIn hw hl) r2 q2) fun r s' hq => ?_)
  cases r with
  | error e => exact absurd hq (by first | exact id | exact fun z => z.elim)
  | ok fl =>
    cases fl with
    | ret u => exact I2.after hq
    | next => exact False.elim hq
    | brk => exact False.elim hq
    | cont => exact False.elim hq
def eCallK (pm : List Nat) (F : WFn) (a : WA) : WE := ⟨fun r R => a r fun ds => F (picks pm ds) R, a.n + F.n⟩
theorem de_callK {g : G} {x : Str} {j n : Nat} {ks : List Str} {pm : List Nat} {F : WFn} {kws : List Keyword} {ma : WA} {p pos : Pos} (hf : FnKW g.P g.w g.K g.mg g.base j x ks pm n F) (ha : DK g kws ma) (hj : j ≤ g.k := by exact Nat.le_of_ble_eq_true rfl) (hg : g.sc.names.lookup x = some .globalImplicit := by rfl)
    (hl : kws.length = ks.length := by rfl) (hn : pm.length = n := by rfl) (hlt : ∀ i ∈ pm, i < ks.length := by decide)
    (hall : ∀ env, (backToKw pos (keywordEach kws env)).all (·.1.isSome) = true := by intro _; rfl) (hks : ∀ env, (backToKw pos (keywordEach kws env)).filterMap (·.1) = ks := by intro _; rfl)
    (hd : (x == ("__debug__" : Str)) = false := by decide) (hpl : ∀ env, ((backTo pos (starEach [] env)).any (·.1) || (backToKw pos (keywordEach kws env)).any (·.1.isNone)) = false := by intro _; rfl) : DE g (.Call (.Name x p) [] kws pos) (eCallK pm F ma) := by
  obtain ⟨t, q⟩ := ha
  obtain ⟨f, fd, ps, l, F1, hm, hk, hb⟩ := hf.ex
  refine ⟨fun E => tCallK0 (spW g.K n F) pm ks.length (t E), fun y ok => ⟨pe_callK0 (X := g.cx y) F1 (ok.room.mono hj) (ok.gl hg) hm hk hb (q y ok).1 (hall _) (hks _) hd (hpl _), ?_⟩⟩
  intro c0 c ad H0 s H rr R Q cf bd hm k
  refine (q y ok).2 c0 c ad H0 s H rr _ _ cf (bd1 bd) hm fun ds vs H1 hx hn' s1 a1 => ?_
  have cf1 := cf.step s1
  have hvl : vs.length = ks.length := by rw [a1.length, hn', hl]
  refine ⟨hvl, c, picks pm ds, R, cf1.ho, picks_at a1 pm, ?_, bd2 bd s1.3, hx, fun d v H' hR s2 a2 => k d v H' hR (s1.trans s2) a2⟩
  have key : ∀ l : List Nat, (∀ i ∈ l, i < ks.length) → (picks l ds).length = l.length := by
    intro l
    induction l with
    | nil => intro _; rfl
    | cons i l ih =>
      intro h
      unfold picks
      rw [List.filterMap_cons, List.getElem?_eq_getElem (show i < ds.length by rw [hn', hl]; exact h i List.mem_cons_self)]
      show (picks l ds).length + 1 = _
      rw [ih fun j hj => h j (List.mem_cons_of_mem _ hj), List.length_cons]
  rw [key pm hlt, hn]
end DS
/-! DS11: comprehensions with two fors. -/
namespace DS
open PySem PySem.Spec PyProof.Rows L2

def lcW2 (mg : WG) (mc : WT) (mi1 : WI) (mg1 : WG) (mc1 : WT) (me : WE) (vs1 : List Nat) (r : Env) (k : List D → Prop) : List D → List D → Prop
  | [], out => k out
  | d :: ds, out => mg d r fun r1 => mc r1 fun b => if b = true then mi1 r1 fun ds1 => ds1.length ≤ 4096 ∧ lcW mg1 mc1 me (wipeE r1 vs1) (fun out' => lcW2 mg mc mi1 mg1 mc1 me vs1 r k ds out') ds1 out else lcW2 mg mc mi1 mg1 mc1 me vs1 r k ds out
def fLc2 (mi : WI) (mg : WG) (mc : WT) (mi1 : WI) (mg1 : WG) (mc1 : WT) (me : WE) (vs vs1 : List Nat) : WF := ⟨fun r R => mi r fun ds => ds.length ≤ 4096 ∧ lcW2 mg mc mi1 mg1 mc1 me vs1 (wipeE r vs) (fun out => R (.ol out)) ds [], mi.n + 4096 * (mc.n + (mi1.n + 4096 * (mc1.n + me.n)))⟩
theorem sem_flc2 {K : PySem.W.Frag} {E : XK} {mi mi1 : WI} {mg mg1 : WG} {mc mc1 : WT} {me : WE} {ws vs ws1 vs1 : List Nat} {wi wi1 : TI} {gt gt1 : TG} {tt tt1 : TT} {te : TE} (hv : ∀ i ∈ ws, i ∈ vs) (hv1 : ∀ i ∈ ws1, i ∈ vs1) (hi : SemI K E mi wi) (hg : SemG K E mg ws gt) (ht : SemT K E mc tt)
    (hi1 : SemI K E mi1 wi1) (hg1 : SemG K E mg1 ws1 gt1) (ht1 : SemT K E mc1 tt1) (he : SemE K E me te) : SemF K E (fLc2 mi mg mc mi1 mg1 mc1 me vs vs1) (tLc2 wi gt tt wi1 gt1 tt1 te vs vs1) := by
  intro c0 c ad H0 s H r R Q cf bd hm k
  refine hi c0 c ad H0 s H r _ _ cf (bd1 bd) hm fun ds J S H1 hR s1 I hS => ?_
  obtain ⟨hlen, hR⟩ := hR
  have cf1 := cf.step s1
  have s1l := s1.3
  have bd' : trn c.sd H + (mi.n + 4096 * (mc.n + (mi1.n + 4096 * (mc1.n + me.n)))) ≤ most := bd
  have kk : ∀ i, i ≤ ds.length → trn c.sd H1 + i * (mc.n + (mi1.n + 4096 * (mc1.n + me.n))) ≤ trn c.sd H + (mi.n + 4096 * (mc.n + (mi1.n + 4096 * (mc1.n + me.n)))) := fun i hi => by
    have : i * (mc.n + (mi1.n + 4096 * (mc1.n + me.n))) ≤ 4096 * (mc.n + (mi1.n + 4096 * (mc1.n + me.n))) := Nat.mul_le_mul_right _ (by omega)
    omega
  intro p hp
  have h0p : H0 p = none := cf1.st.free0 hp
  obtain ⟨g0, cl0, l0, t0, z1, z2, z3, _⟩ := cf1.inv
  have n1 : p ≠ c.sd := fun z => by rw [← z, hp] at z1; cases z1
  have n2 : p ≠ c.sg := fun z => by rw [← z, hp] at z2; cases z2
  have n3 : p ≠ c.sl := fun z => by rw [← z, hp] at z3; cases z3
  have hown : ∀ (r' : Env), (∀ (i : Nat) (x : Sl), r'.sl[i]? = some x → x.own → r.sl[i]? = some x) → ∀ (i : Nat) (x : Sl), r'.sl[i]? = some x → x.own → ad i ≠ p := fun r' hr' i x e o z => by
    obtain ⟨u, q⟩ := cf1.dom _ (cf1.own i x (hr' i x e o) o).1
    rw [z, hp] at q; cases q
  have hsub : ∀ (i : Nat) (x : Sl), (wipeE r vs).sl[i]? = some x → x.own → r.sl[i]? = some x := fun i x e o => by
    rcases wipeL_get e with q | ⟨q, _⟩
    · subst q; exact o.elim
    · exact q
  have hbig : 4096 * 4096 ≤ sizeLine := by rw [sizeLine_eq]; decide
  refine ⟨fun i m H2 => m = ds.length - i ∧ i ≤ ds.length ∧ ∃ xs out, H2 p = some (.lst xs) ∧ xs.length ≤ i * 4096 ∧ AtL K (c.with p) H2 xs out ∧ Cf K c0 (c.with p) ad H0 E (wipe s vs) H2 (wipeE r vs) ∧ S (c.with p) H2 ∧ (∀ b o, H1 b = some o → b ≠ c.sd → b ≠ c.sg → H2 b = some o) ∧ trn c.sd H2 ≤ trn c.sd H1 + i * (mc.n + (mi1.n + 4096 * (mc1.n + me.n))) ∧ lcW2 mg mc mi1 mg1 mc1 me vs1 (wipeE r vs) (fun out => R (.ol out)) (ds.drop i) out,
    ⟨ds.length, by simp, Nat.zero_le _, [], [], upd_same, Nat.zero_le _, .nil, (cf1.wipe vs).with hp, I.evo _ _ _ _ hS (evo_with hp), fun b o e _ _ => by rw [upd_ne (ne_of_none e hp)]; exact e, by rw [trn_new cf1.inv hp]; exact Nat.le_add_right _ _, hR⟩, ?_⟩
  rintro i m H2 ⟨rfl, hle, xs, out, hx, hxl, hxa, cf2, hS2, fr, le, hW⟩
  by_cases hlt : i < ds.length
  · refine .inr ⟨I.goes i _ H2 hlt hS2, fun H' => ∃ xs out, H' p = some (.lst xs) ∧ xs.length ≤ (i + 1) * 4096 ∧ AtL K (c.with p) H' xs out ∧ Cf K c0 (c.with p) ad H0 E (L2.wipe s vs) H' (wipeE r vs) ∧ S (c.with p) H' ∧ (∀ b o, H1 b = some o → b ≠ c.sd → b ≠ c.sg → H' b = some o) ∧ trn c.sd H' ≤ trn c.sd H1 + (i + 1) * (mc.n + (mi1.n + 4096 * (mc1.n + me.n))) ∧ lcW2 mg mc mi1 mg1 mc1 me vs1 (wipeE r vs) (fun out => R (.ol out)) (ds.drop (i + 1)) out,
      fun H' q => ⟨ds.length - (i + 1), by omega, rfl, hlt, q⟩, fun x H3 y => ?_⟩
    have ed := List.drop_eq_getElem_cons hlt
    rw [ed] at hW
    obtain ⟨s3, a3⟩ := I.ylds i _ H2 x H3 ds[i] (List.getElem?_eq_getElem hlt) hS2 cf2.ho y
    have cf3 := cf2.step s3
    have e3 := cf2.evo s3
    have s3l : trn c.sd H3 ≤ trn c.sd H2 + 0 := s3.3
    have k1 := kk (i + 1) hlt
    have k2 : (i + 1) * (mc.n + (mi1.n + 4096 * (mc1.n + me.n))) = i * (mc.n + (mi1.n + 4096 * (mc1.n + me.n))) + (mc.n + (mi1.n + 4096 * (mc1.n + me.n))) := Nat.succ_mul i _
    have hx3 : H3 p = some (.lst xs) := s3.2 _ _ hx n1 n2
    refine hg c0 _ ad H0 _ H3 _ x ds[i] _ _ cf3 a3 hW fun s' r' hr' cf4 hw4 how => ?_
    refine ⟨(hw4 vs hv).trans (wipe_idem s vs), ?_⟩
    refine ht c0 _ ad H0 s' H3 r' _ _ cf4 (show trn c.sd H3 + mc.n ≤ most by omega) hr' fun b H4 hb s4 => ?_
    have s4l : trn c.sd H4 ≤ trn c.sd H3 + mc.n := s4.3
    have cf5 := cf4.step s4
    have hx4 : H4 p = some (.lst xs) := s4.2 _ _ hx3 n1 n2
    have e4 := cf4.evo s4
    have fr4 : ∀ b o, H1 b = some o → b ≠ c.sd → b ≠ c.sg → H4 b = some o := fun b o e m1 m2 => s4.2 _ _ (s3.2 _ _ (fr b o e m1 m2) m1 m2) m1 m2
    cases b with
    | true =>
      rw [if_pos rfl] at hb ⊢
      refine hi1 c0 _ ad H0 s' H4 r' _ _ cf5 (show trn c.sd H4 + mi1.n ≤ most by omega) hb fun ds1 J1 S1 H5 hR1 s5 I1 hS1 => ?_
      have s5l : trn c.sd H5 ≤ trn c.sd H4 + mi1.n := s5.3
      obtain ⟨hlen1, hR1⟩ := hR1
      have kk1 : ∀ j, j ≤ ds1.length → trn c.sd H5 + j * (mc1.n + me.n) ≤ trn c.sd H1 + (i + 1) * (mc.n + (mi1.n + 4096 * (mc1.n + me.n))) := fun j hj => by
        have : j * (mc1.n + me.n) ≤ 4096 * (mc1.n + me.n) := Nat.mul_le_mul_right _ (by omega)
        omega
      have cf6 := cf5.step s5
      have e5 := cf5.evo s5
      have hx5 : H5 p = some (.lst xs) := s5.2 _ _ hx4 n1 n2
      have hor : ∀ (j : Nat) (z : Sl), (wipeE r' vs1).sl[j]? = some z → z.own → ad j ≠ p := fun j z e o => by
        rcases wipeL_get e with q | ⟨q, _⟩
        · subst q; exact o.elim
        · exact hown r (fun _ _ e _ => e) j z (hsub j z (how j z q o) o) o
      have how2 : ∀ (j : Nat) (z : Sl), (wipeE r vs).sl[j]? = some z → z.own → ad j ≠ p := fun j z e o => hown r (fun _ _ e _ => e) j z (hsub j z e o) o
      have cfo := (cf3.step s4).step s5
      refine ⟨fun j m1 H6 => m1 = ds1.length - j ∧ j ≤ ds1.length ∧ ∃ xs out, H6 p = some (.lst xs) ∧ xs.length ≤ i * 4096 + j ∧ AtL K (c.with p) H6 xs out ∧ Cf K c0 (c.with p) ad H0 E (L2.wipe s vs) H6 (wipeE r vs) ∧ Cf K c0 (c.with p) ad H0 E (L2.wipe s' vs1) H6 (wipeE r' vs1) ∧ S (c.with p) H6 ∧ S1 (c.with p) H6 ∧
          (∀ b o, H1 b = some o → b ≠ c.sd → b ≠ c.sg → H6 b = some o) ∧ trn c.sd H6 ≤ trn c.sd H5 + j * (mc1.n + me.n) ∧ lcW mg1 mc1 me (wipeE r' vs1) (fun out' => lcW2 mg mc mi1 mg1 mc1 me vs1 (wipeE r vs) (fun out => R (.ol out)) (ds.drop (i + 1)) out') (ds1.drop j) out,
        ⟨ds1.length, by simp, Nat.zero_le _, xs, out, hx5, hxl, ((hxa.evo e3).evo e4).evo e5, cfo, cf6.wipe vs1, I.evo _ _ _ _ hS2 ((e3.trans e4).trans e5), hS1, fun b o e m1 m2 => s5.2 _ _ (fr4 b o e m1 m2) m1 m2, Nat.le_add_right _ _, hR1⟩, ?_⟩
      rintro j m1 H6 ⟨rfl, hle1, xs6, out6, hx6, hxl6, hxa6, cfo6, cfi6, hS6, hS16, fr6, le6, hW6⟩
      by_cases hlt1 : j < ds1.length
      · refine .inr ⟨I1.goes j _ H6 hlt1 hS16, fun H6 => ∃ xs out, H6 p = some (.lst xs) ∧ xs.length ≤ i * 4096 + (j + 1) ∧ AtL K (c.with p) H6 xs out ∧ Cf K c0 (c.with p) ad H0 E (L2.wipe s vs) H6 (wipeE r vs) ∧ Cf K c0 (c.with p) ad H0 E (L2.wipe s' vs1) H6 (wipeE r' vs1) ∧ S (c.with p) H6 ∧ S1 (c.with p) H6 ∧
          (∀ b o, H1 b = some o → b ≠ c.sd → b ≠ c.sg → H6 b = some o) ∧ trn c.sd H6 ≤ trn c.sd H5 + (j + 1) * (mc1.n + me.n) ∧ lcW mg1 mc1 me (wipeE r' vs1) (fun out' => lcW2 mg mc mi1 mg1 mc1 me vs1 (wipeE r vs) (fun out => R (.ol out)) (ds.drop (i + 1)) out') (ds1.drop (j + 1)) out,
          fun H' q => ⟨ds1.length - (j + 1), by omega, rfl, hlt1, q⟩, fun x7 H7 y7 => ?_⟩
        have ed1 := List.drop_eq_getElem_cons hlt1
        rw [ed1] at hW6
        obtain ⟨s7, a7⟩ := I1.ylds j _ H6 x7 H7 ds1[j] (List.getElem?_eq_getElem hlt1) hS16 cfi6.ho y7
        have cf7 := cfi6.step s7
        have e7 := cfi6.evo s7
        have s7l : trn c.sd H7 ≤ trn c.sd H6 + 0 := s7.3
        have k3 := kk1 (j + 1) hlt1
        have k4 : (j + 1) * (mc1.n + me.n) = j * (mc1.n + me.n) + (mc1.n + me.n) := Nat.succ_mul j _
        have hx7 : H7 p = some (.lst xs6) := s7.2 _ _ hx6 n1 n2
        refine hg1 c0 _ ad H0 _ H7 _ x7 ds1[j] _ _ cf7 a7 hW6 fun s8 r8 hr8 cf8 hw8 how8 => ?_
        refine ⟨(hw8 vs1 hv1).trans (wipe_idem s' vs1), ?_⟩
        refine ht1 c0 _ ad H0 s8 H7 r8 _ _ cf8 (show trn c.sd H7 + mc1.n ≤ most by omega) hr8 fun b H9 hb9 s9 => ?_
        have s9l : trn c.sd H9 ≤ trn c.sd H7 + mc1.n := s9.3
        have cf9 := cf8.step s9
        have hx9 : H9 p = some (.lst xs6) := s9.2 _ _ hx7 n1 n2
        have e9 := cf8.evo s9
        have fr9 : ∀ b o, H1 b = some o → b ≠ c.sd → b ≠ c.sg → H9 b = some o := fun b o e m1 m2 => s9.2 _ _ (s7.2 _ _ (fr6 b o e m1 m2) m1 m2) m1 m2
        cases b with
        | true =>
          rw [if_pos rfl] at hb9 ⊢
          refine he c0 _ ad H0 s8 H9 r8 _ _ cf9 (show trn c.sd H9 + me.n ≤ most by omega) hb9 fun z v H10 hz s10 a10 => ?_
          have s10l : trn c.sd H10 ≤ trn c.sd H9 + me.n := s10.3
          have e10 := cf9.evo s10
          have hx10 : H10 p = some (.lst xs6) := s10.2 _ _ hx9 n1 n2
          have cfo10 := ((cfo6.step s7).step s9).step s10
          have cfi10 := (cf7.step s9).step s10
          obtain ⟨cfo11, e11⟩ := cfo10.grow (o' := .lst (xs6 ++ [v])) hx10 h0p n1 n2 n3 how2
          obtain ⟨cfi11, _⟩ := cfi10.grow (o' := .lst (xs6 ++ [v])) hx10 h0p n1 n2 n3 hor
          have hev := ((e7.trans e9).trans e10).trans e11
          have hb1 : i * 4096 + 4096 ≤ 4096 * 4096 := by omega
          refine ⟨xs6, hx10, by omega, xs6 ++ [v], out6 ++ [z], upd_same, by rw [List.length_append, List.length_singleton]; omega, ?_, cfo11, cfi11, I.evo _ _ _ _ hS6 hev, I1.evo _ _ _ _ hS16 hev, fun b o e m1 m2 => ?_, ?_, hz⟩
          · exact ((((hxa6.evo e7).evo e9).evo e10).append (.cons a10 .nil)).evo e11
          · rw [upd_ne (ne_of_none e hp)]
            exact s10.2 _ _ (fr9 b o e m1 m2) m1 m2
          · rw [trn_same (upd_ne (Ne.symm n1))]; omega
        | false =>
          rw [if_neg Bool.false_ne_true] at hb9 ⊢
          exact ⟨xs6, out6, hx9, by omega, (hxa6.evo e7).evo e9, (cfo6.step s7).step s9, cf7.step s9, I.evo _ _ _ _ hS6 (e7.trans e9), I1.evo _ _ _ _ hS16 (e7.trans e9), fr9, by omega, hb9⟩
      · have e : j = ds1.length := by omega
        subst e
        rw [List.drop_length] at hW6
        exact .inl ⟨I1.stops _ H6 hS16, xs6, out6, hx6, by omega, hxa6, cfo6, hS6, fr6, Nat.le_trans le6 (kk1 _ hle1), hW6⟩
    | false =>
      rw [if_neg Bool.false_ne_true] at hb ⊢
      exact ⟨xs, out, hx4, by omega, (hxa.evo e3).evo e4, cf3.step s4, I.evo _ _ _ _ hS2 (e3.trans e4), fr4, by omega, hb⟩
  · have e : i = ds.length := by omega
    subst e
    rw [List.drop_length] at hW
    exact .inl ⟨I.stops _ H2 hS2, k (.ol out) p H2 hW trivial (s1.free0 hp) ⟨cf2.inv, fun b o e m1 m2 => fr b o (s1.2 b o e m1 m2) m1 m2, Nat.le_trans le (kk _ hle)⟩ ⟨xs, hx, by have : ds.length * 4096 ≤ 4096 * 4096 := Nat.mul_le_mul_right _ hlen; omega, hxa⟩⟩
section
variable {g : G} {elt tg iter tg1 iter1 : Expr} {ifs ifs1 : List Expr} {scope : Scope} {pos : Pos} {mi mi1 : WI} {mg mg1 : WG} {mc mc1 : WT} {me : WE} {ws ws1 : List Nat}
theorem df_lc2 (own : List (Str × Nat)) (vs1 : List Nat) (hi : DI g tg iter mi) (hb : blkC g.N g.sc scope own = true) (hg : DG (g.blk scope) tg mg ws) (ht : DTs (g.blk scope) ifs mc) (hi1 : DI (g.blk scope) tg1 iter1 mi1) (hg1 : DG (g.blk scope) tg1 mg1 ws1) (ht1 : DTs (g.blk scope) ifs1 mc1)
    (he : DE (g.blk scope) elt me) (hv : ∀ i ∈ ws, i ∈ own.map (·.2) := by decide) (hv1 : ∀ i ∈ ws1, i ∈ vs1 := by decide) (hvv : ∀ i ∈ vs1, i ∈ own.map (·.2) := by decide) (hs : ∀ env x, foldedSetIterable iter env x = pure x := by intro _ _; rfl) (hs1 : ∀ env x, foldedSetIterable iter1 env x = pure x := by intro _ _; rfl) :
    DF g (.ListComp elt [⟨tg, iter, ifs, 0⟩, ⟨tg1, iter1, ifs1, 0⟩] scope pos) (fLc2 mi mg mc mi1 mg1 mc1 me (own.map (·.2)) vs1) := by
  obtain ⟨ti, pi⟩ := hi
  obtain ⟨tg', pg⟩ := hg
  obtain ⟨tt, pt⟩ := ht
  obtain ⟨ti1, pi1⟩ := hi1
  obtain ⟨tg1', pg1⟩ := hg1
  obtain ⟨tt1, pt1⟩ := ht1
  obtain ⟨te, pe⟩ := he
  refine ⟨fun E => tLc2 (ti E) (tg' E) (tt E) (ti1 E) (tg1' E) (tt1 E) (te E) (own.map (·.2)) vs1, fun y ok => ⟨?_, ?_⟩⟩
  · refine pe_lc2 (X := g.cx y) rfl ok.nd (pi y ok).1 (blkOk_by (by show blkC g.N y.env.scope scope own = true; rw [ok.sc]; exact hb)) hvv (fun s H C cl fp => (pg _ (blk_ok ok s H C cl fp)).1) (fun s H C cl fp => (pt _ (blk_ok ok s H C cl fp)).1)
      (fun s H C cl fp => (pi1 _ (blk_ok ok s H C cl fp)).1) (fun s H C cl fp => (pg1 _ (blk_ok ok s H C cl fp)).1) (fun s H C cl fp => (pt1 _ (blk_ok ok s H C cl fp)).1) (fun s H C cl fp => (pe _ (blk_ok ok s H C cl fp)).1) (hs _) hs1
  · have ok' := blk_ok (scope := scope) ok y.s0 y.H0 y.env.locals [] []
    exact sem_flc2 hv hv1 (pi y ok).2 (pg _ ok').2 (pt _ ok').2 (pi1 _ ok').2 (pg1 _ ok').2 (pt1 _ ok').2 (pe _ ok').2
theorem DF.e {e : Expr} {m : WF} (h : DF g e m) : DE g e m.e := let ⟨t, p⟩ := h; ⟨t, fun y ok => ⟨(p y ok).1, (p y ok).2.toE⟩⟩
theorem de_lc2 (own : List (Str × Nat)) (vs1 : List Nat) (hi : DI g tg iter mi) (hb : blkC g.N g.sc scope own = true) (hg : DG (g.blk scope) tg mg ws) (ht : DTs (g.blk scope) ifs mc) (hi1 : DI (g.blk scope) tg1 iter1 mi1) (hg1 : DG (g.blk scope) tg1 mg1 ws1) (ht1 : DTs (g.blk scope) ifs1 mc1)
    (he : DE (g.blk scope) elt me) (hv : ∀ i ∈ ws, i ∈ own.map (·.2) := by decide) (hv1 : ∀ i ∈ ws1, i ∈ vs1 := by decide) (hvv : ∀ i ∈ vs1, i ∈ own.map (·.2) := by decide) (hs : ∀ env x, foldedSetIterable iter env x = pure x := by intro _ _; rfl) (hs1 : ∀ env x, foldedSetIterable iter1 env x = pure x := by intro _ _; rfl) :
    DE g (.ListComp elt [⟨tg, iter, ifs, 0⟩, ⟨tg1, iter1, ifs1, 0⟩] scope pos) (fLc2 mi mg mc mi1 mg1 mc1 me (own.map (·.2)) vs1).e := (df_lc2 own vs1 hi hb hg ht hi1 hg1 ht1 he hv hv1 hvv hs hs1).e
end
end DS
/-! DS12: the source of draws: _law_begun, _law_blended, _law_draw. -/
namespace DS
open PySem PySem.Spec PyProof.Rows L2

/-! ### the dict of the source -/
abbrev drawD (c : Co) (left turn : Int) : List (Key × V) := [(kGreat, .ref c.sg), (kCells, .ref c.sl), (kLeft, .int left), (kTurn, .int turn)]
theorem key_ne : kGreat ≠ kCells ∧ kGreat ≠ kLeft ∧ kGreat ≠ kTurn ∧ kCells ≠ kLeft ∧ kCells ≠ kTurn ∧ kLeft ≠ kTurn := by decide +kernel
section
variable {a b d e v : V}
theorem val_great : valV [(kGreat, a), (kCells, b), (kLeft, d), (kTurn, e)] kGreat = some a := by
  unfold valV
  rw [List.find?_cons_of_pos (by simp)]; rfl
theorem val_cells : valV [(kGreat, a), (kCells, b), (kLeft, d), (kTurn, e)] kCells = some b := by
  obtain ⟨h1, h2, h3, h4, h5, h6⟩ := key_ne
  unfold valV
  rw [List.find?_cons_of_neg (by simpa using h1), List.find?_cons_of_pos (by simp)]; rfl
theorem val_left : valV [(kGreat, a), (kCells, b), (kLeft, d), (kTurn, e)] kLeft = some d := by
  obtain ⟨h1, h2, h3, h4, h5, h6⟩ := key_ne
  unfold valV
  rw [List.find?_cons_of_neg (by simpa using h2), List.find?_cons_of_neg (by simpa using h4), List.find?_cons_of_pos (by simp)]; rfl
theorem val_turn : valV [(kGreat, a), (kCells, b), (kLeft, d), (kTurn, e)] kTurn = some e := by
  obtain ⟨h1, h2, h3, h4, h5, h6⟩ := key_ne
  unfold valV
  rw [List.find?_cons_of_neg (by simpa using h3), List.find?_cons_of_neg (by simpa using h5), List.find?_cons_of_neg (by simpa using h6), List.find?_cons_of_pos (by simp)]; rfl
theorem put_left : putK [(kGreat, a), (kCells, b), (kLeft, d), (kTurn, e)] kLeft v = [(kGreat, a), (kCells, b), (kLeft, v), (kTurn, e)] := by
  obtain ⟨h1, h2, h3, h4, h5, h6⟩ := key_ne
  unfold putK
  rw [if_pos (by simp)]
  simp [h2, h4, Ne.symm h6]
theorem put_turn : putK [(kGreat, a), (kCells, b), (kLeft, d), (kTurn, e)] kTurn v = [(kGreat, a), (kCells, b), (kLeft, d), (kTurn, v)] := by
  obtain ⟨h1, h2, h3, h4, h5, h6⟩ := key_ne
  unfold putK
  rw [if_pos (by simp)]
  simp [h3, h5, h6]
theorem merge4 : mergeK [] [(kGreat, a), (kCells, b), (kLeft, d), (kTurn, e)] = [(kGreat, a), (kCells, b), (kLeft, d), (kTurn, e)] := by
  obtain ⟨h1, h2, h3, h4, h5, h6⟩ := key_ne
  unfold mergeK putK
  simp [h1, h2, h3, h4, h5, h6]
end
def StAt (c : Co) (H : Hp) (great cells : List Int) (left turn : Int) : Prop :=
  H c.sd = some (.dK (drawD c left turn)) ∧ H c.sg = some (.lst (great.map V.int)) ∧ H c.sl = some (.lst (cells.map V.int)) ∧ c.sl ≠ c.sg ∧ great.length ≤ 63 ∧ 0 ≤ left ∧ 0 ≤ turn ∧ ∀ g ∈ great, 0 ≤ g
theorem StInv.st {c : Co} {H : Hp} (h : StInv c H) : ∃ great cells left turn, StAt c H great cells left turn := let ⟨g, cl, l, t, r⟩ := h; ⟨g, cl, l, t, r⟩
theorem StAt.inv {c : Co} {H : Hp} {great cells : List Int} {left turn : Int} (h : StAt c H great cells left turn) : StInv c H := ⟨great, cells, left, turn, h⟩
theorem StAt.trn {c : Co} {H : Hp} {great cells : List Int} {left turn : Int} (h : StAt c H great cells left turn) : DS.trn c.sd H = turn.toNat := by unfold DS.trn; rw [h.1]
theorem StAt.ne {c : Co} {H : Hp} {great cells : List Int} {left turn : Int} (h : StAt c H great cells left turn) : c.sd ≠ c.sg ∧ c.sd ≠ c.sl := by
  constructor
  · intro z
    have h1 := h.1
    rw [z, h.2.1] at h1
    cases h1
  · intro z
    have h1 := h.1
    rw [z, h.2.2.1] at h1
    cases h1

/-! ### _law_blended -/
def spBl (K : PySem.W.Frag) : Sp := fun vs H Q _ => ∃ (c : Co) (great cells : List Int) (left turn : Int), vs = [.ref c.sd] ∧ StAt c H great cells left turn ∧ turn < most ∧
  ∀ (r : Int) H', 0 ≤ r → StAt c H' great cells left (turn + 1) → (∀ b o, H b = some o → b ≠ c.sd → H' b = some o) → Q (.int r) H'
abbrev rAddI : R2 := rI0 fun i j => .int (i + j)
abbrev rMulI : R2 := rI CMul fun i j => .int (i * j)
abbrev rFdI : R2 := rI CDiv fun i j => .int (i / j)
abbrev rModI : R2 := rI (fun _ j => 0 < j) fun i j => .int (i % j)
def huge : Nat := 2 ^ 200000
def rPow5 : R2 := rI (fun i j => j = 5 ∧ 0 ≤ i ∧ i < (huge : Int)) fun i j => .int (i ^ 5)
theorem op_pow5 {X : Cx} : OpR X (binaryOp .Pow) rPow5 := by
  refine opI fun i j _ _ _ _ _ hc q => ?_
  obtain ⟨rfl, h0, h1⟩ := hc
  refine pow_int (by decide) ?_ q
  have : Builtin.Int.intBits i ≤ 200000 := by
    unfold Builtin.Int.intBits
    split
    · omega
    · rename_i hz
      have h0' : 0 ≤ i := h0
      have h1' : i < (huge : Int) := h1
      have h2 : i.natAbs < huge := by omega
      have hz' : i.natAbs ≠ 0 := fun z => hz (by simpa using Int.natAbs_eq_zero.mp z)
      have h3 : Nat.log2 i.natAbs < 200000 := (Nat.log2_lt hz').mpr h2
      omega
  omega
abbrev rIntI : List V → Hp → VK → Prop := fun xs H Q => (∃ i, xs = [.int i] ∧ Q (.int i) H) ∨ ∃ k, xs = [.bl k] ∧ Q (.int (if k then 1 else 0)) H
def tBl (K : PySem.W.Frag) : TS :=
  tSeq (tPar 1 2 (tCons (tOp rAddI (tDGet (tVar 0) (tC (.str "turn"))) (tC (.int 1))) (tCons (tC (.int 0)) tNil)))
  (tSeq (sDPut (tVar 0) (tC (.str "turn")) (tVar 1))
  (tSeq (tFor (iList K (tLst (tCons (tC (.int 2147481811)) (tCons (tC (.int 2147481797)) (tCons (tC (.int 2147481793)) tNil))))) (gName 3)
    (tSeq (tAsg (tOp rAddI (tOp rMulI (tC (.int 44903)) (tVar 1)) (tOp rFdI (tVar 3) (tC (.int 79)))) (gName 4))
    (tSeq (tFor (iList K (tDGet (tVar 0) (tC (.str "cells")))) (gName 5) (tAsg (tOp rModI (tCB rIntI (tCons (tOp rAddI (tOp rAddI (tOp rMulI (tVar 4) (tC (.int 67891))) (tVar 5)) (tVar 1)) tNil)) (tVar 3)) (gName 4)))
          (tAsg (tOp rAddI (tOp rMulI (tVar 2) (tC (.int 2147483647))) (tOp rModI (tCB rIntI (tCons (tOp rPow5 (tVar 4) (tC (.int 5))) tNil)) (tVar 3))) (gName 2)))))
    (tRet (tVar 2))))
theorem mul_r {x y : Int} (h : 0 ≤ y ∧ y < 2 ^ 63) : CMul x y := .inr ⟨by omega, by omega⟩
theorem mul_l {x y : Int} (h : 0 ≤ x ∧ x < 2 ^ 63) : CMul x y := .inl ⟨by omega, by omega⟩
theorem most_big : 44903 * most + 44903 + 2147483647 < huge := by unfold most huge; decide +kernel
theorem huge_big : 2147483648 < huge := Nat.lt_of_le_of_lt (by omega) most_big
theorem bl_run {K : PySem.W.Frag} {D : Ends} {H : Hp} {vs : List V} {E : XK} (h : spBl K vs H D.rt E) : tBl K D (start ["state", "turn", "found", "prime", "blend", "cell"] vs) H := by
  obtain ⟨c, great, cells, left, turn, rfl, hs, ht, q⟩ := h
  obtain ⟨n1, n2⟩ := hs.ne
  obtain ⟨e1, e2, e3, e4, e5, e6, e7, e8⟩ := hs
  refine ⟨.ref c.sd, rfl, c.sd, .int turn, rfl, by rw [← val_turn (a := .ref c.sg) (b := .ref c.sl) (d := .int left) (e := .int turn)]; exact DGet.k (k := kTurn) e1, turn, 1, rfl, rfl, _, _, rfl, ?_⟩
  refine ⟨.int (turn + 1), rfl, .ref c.sd, rfl, c.sd, upd H c.sd (.dK (drawD c left (turn + 1))), rfl, ?_, ?_⟩
  · have := DPut.k (k := kTurn) (v := .int (turn + 1)) e1 (by rw [sizeLine_eq]; show 4 < 16777216; decide)
    rw [put_turn] at this
    exact this
  -- the three primes
  have hs2 : StAt c (upd H c.sd (.dK (drawD c left (turn + 1)))) great cells left (turn + 1) := ⟨upd_same, by rw [upd_ne (Ne.symm n1)]; exact e2, by rw [upd_ne (Ne.symm n2)]; exact e3, e4, e5, e6, by omega, e8⟩
  have hH : ∀ b o, H b = some o → b ≠ c.sd → upd H c.sd (.dK (drawD c left (turn + 1))) b = some o := fun b o e n => by rw [upd_ne n]; exact e
  generalize upd H c.sd (.dK (drawD c left (turn + 1))) = H1 at hs2 hH ⊢
  refine ⟨by show 3 ≤ sizeLine; decide, fun p hp => ⟨p, rfl, ⟨_, SqL.of upd_same⟩, ?_⟩⟩
  have hs3 : StAt c (upd H1 p (.lst [.int 2147481811, .int 2147481797, .int 2147481793])) great cells left (turn + 1) := by
    obtain ⟨e1, e2, e3, r⟩ := hs2
    exact ⟨by rw [upd_ne (ne_of_none e1 hp)]; exact e1, by rw [upd_ne (ne_of_none e2 hp)]; exact e2, by rw [upd_ne (ne_of_none e3 hp)]; exact e3, r⟩
  have hH3 : ∀ b o, H b = some o → b ≠ c.sd → upd H1 p (.lst [.int 2147481811, .int 2147481797, .int 2147481793]) b = some o := fun b o e n => by
    have := hH b o e n
    rw [upd_ne (ne_of_none this hp)]; exact this
  have hL : SqL K (upd H1 p (.lst [.int 2147481811, .int 2147481797, .int 2147481793])) p [.int 2147481811, .int 2147481797, .int 2147481793] := SqL.of upd_same
  generalize upd H1 p (.lst [.int 2147481811, .int 2147481797, .int 2147481793]) = H2 at hs3 hH3 hL ⊢
  refine ⟨fun i m σ H' => m + i = 3 ∧ H' = H2 ∧ ∃ (f : Int) (y3 y4 y5 : Option V), 0 ≤ f ∧ σ = [some (.ref c.sd), some (.int (turn + 1)), some (.int f), y3, y4, y5], ⟨3, rfl, rfl, 0, none, none, none, Int.le_refl _, rfl⟩, ?_⟩
  rintro i m σ H' ⟨hm, rfl, f, y3, y4, y5, hf, rfl⟩
  by_cases hi : i < 3
  · have hx : ∃ pr : Int, ([V.int 2147481811, V.int 2147481797, V.int 2147481793] : List V)[i]? = some (.int pr) ∧ 0 < pr ∧ pr < 2147483648 := by
      match i, hi with
      | 0, _ => exact ⟨_, rfl, by decide, by decide⟩
      | 1, _ => exact ⟨_, rfl, by decide, by decide⟩
      | 2, _ => exact ⟨_, rfl, by decide, by decide⟩
    obtain ⟨pr, hx, p0, p1⟩ := hx
    refine .inr ⟨⟨_, _, hL, hx⟩, fun σ' H'' => H'' = H' ∧ ∃ (f : Int) (y3 y4 y5 : Option V), 0 ≤ f ∧ σ' = [some (.ref c.sd), some (.int (turn + 1)), some (.int f), y3, y4, y5], fun σ' H'' ⟨e, r⟩ => ⟨m - 1, by omega, by omega, e, r⟩, ?_⟩
    rintro x H'' ⟨rfl, hxx⟩
    have ex := hxx _ hL
    rw [hx] at ex
    cases ex
    -- blend = ..
    refine ⟨_, rfl, 44903, turn + 1, rfl, rfl, mul_l (by decide), _, rfl, pr, 79, rfl, rfl, ⟨by decide, by decide⟩, _, _, rfl, rfl, ?_⟩
    -- for cell in state['cells']
    obtain ⟨e1, e2, e3, e4, e5, e6, e7, e8⟩ := id hs3
    have hC : SqL K H'' c.sl (cells.map V.int) := SqL.of e3
    have b0 : 0 ≤ 44903 * (turn + 1) + pr / 79 := by omega
    have b1 : 44903 * (turn + 1) + pr / 79 < (huge : Int) := by
      have h1 := most_big
      have h2 : pr / 79 ≤ 2147483647 := by omega
      omega
    have b2 : ((2147483648 : Nat) : Int) < (huge : Int) := Int.ofNat_lt.mpr huge_big
    refine ⟨.ref c.sd, rfl, c.sd, .ref c.sl, rfl, by rw [← val_cells (a := .ref c.sg) (b := .ref c.sl) (d := .int left) (e := .int (turn + 1))]; exact DGet.k (k := kCells) e1, c.sl, rfl, ⟨_, hC⟩, ?_⟩
    refine ⟨fun j m σ H' => m + j = cells.length ∧ H' = H'' ∧ ∃ (bl : Int) (y5 : Option V), 0 ≤ bl ∧ bl < (huge : Int) ∧ σ = [some (.ref c.sd), some (.int (turn + 1)), some (.int f), some (.int pr), some (.int bl), y5], ⟨cells.length, rfl, rfl, 44903 * (turn + 1) + pr / 79, y5, b0, b1, rfl⟩, ?_⟩
    rintro j m2 σ H' ⟨hm2, rfl, bl, y5, b0, b1, rfl⟩
    by_cases hj : j < cells.length
    · have hx : (cells.map V.int)[j]? = some (.int cells[j]) := by rw [List.getElem?_map, List.getElem?_eq_getElem hj]; rfl
      refine .inr ⟨⟨_, _, hC, hx⟩, fun σ' H'' => H'' = H' ∧ ∃ (bl : Int) (y5 : Option V), 0 ≤ bl ∧ bl < (huge : Int) ∧ σ' = [some (.ref c.sd), some (.int (turn + 1)), some (.int f), some (.int pr), some (.int bl), y5], fun σ' H'' ⟨e, r⟩ => ⟨m2 - 1, by omega, by omega, e, r⟩, ?_⟩
      rintro x H'' ⟨rfl, hxx⟩
      have ex := hxx _ hC
      rw [hx] at ex
      cases ex
      refine ⟨_, rfl, _, _, rfl, rfl, mul_r (by decide), _, rfl, _, _, rfl, rfl, _, rfl, _, _, rfl, rfl, .inl ⟨_, rfl, _, rfl, _, _, rfl, rfl, p0, rfl, _, _, Int.emod_nonneg _ (by omega), ?_, rfl⟩⟩
      have := Int.emod_lt_of_pos (bl * 67891 + cells[j] + (turn + 1)) p0
      omega
    · have : j = cells.length := by omega
      subst this
      refine .inl ⟨⟨_, hC, by rw [List.length_map]; exact Nat.le_refl _⟩, ?_⟩
      -- found = ..
      refine ⟨_, rfl, _, _, rfl, rfl, mul_r (by decide), _, rfl, _, _, rfl, rfl, ⟨rfl, b0, b1⟩, .inl ⟨_, rfl, _, rfl, _, _, rfl, rfl, p0, _, _, rfl, rfl, rfl, _, _, _, _, ?_, rfl⟩⟩
      have h1 := Int.emod_nonneg (bl ^ 5) (show pr ≠ 0 by omega)
      omega
  · have : i = 3 := by omega
    subst this
    exact .inl ⟨⟨_, hL, by decide⟩, ⟨_, rfl, q f H' hf hs3 hH3⟩⟩
/-! ### _law_draw -/
def drawF : WFn := ⟨fun ds R => ∃ n : Int, ds = [.st, .int n] ∧ 0 < n ∧ n < 2 ^ 30 ∧ ∀ r : Int, 0 ≤ r → r < n → R (.int r), 1⟩
abbrev rEqI : R2 := rI0 fun i j => .bl (decide (i = j))
theorem op_eqI {X : Cx} : OpR X (compareOp .Eq) rEqI := opB0 fun _ _ _ _ _ _ _ q => eq_int q
abbrev tLeft : TE := tDGet (tVar 0) (tC (.str "left"))
def tDraw (K : PySem.W.Frag) : TS :=
  tSeq (tIfS (tTest (tOp rEqI tLeft (tC (.int 0))))
    (sDPut (tVar 0) (tC (.str "left")) (tIf (tTest (tOp (rEqA K fun b => !b) (tDGet (tVar 0) (tC (.str "great"))) (tLst tNil))) (tBM K "list" rPopAt (tDGet (tVar 0) (tC (.str "great"))) (tCons (tC (.int 0)) tNil)) (tCall (spBl K) [] L2.E0 (tCons (tVar 0) tNil))))
    tNext)
  (tSeq (tAsg (tOp rModI (tCB rIntI (tCons tLeft tNil)) (tVar 1)) (gName 2))
  (tSeq (sDPut (tVar 0) (tC (.str "left")) (tOp rFdI tLeft (tVar 1)))
    (tRet (tVar 2))))
theorem get_left {c : Co} {H : Hp} {left turn : Int} (e : H c.sd = some (.dK (drawD c left turn))) : DGet H c.sd (.str "left") (some (.int left)) := by
  rw [← val_left (a := .ref c.sg) (b := .ref c.sl) (d := .int left) (e := .int turn)]; exact DGet.k (k := kLeft) e
theorem get_great {c : Co} {H : Hp} {left turn : Int} (e : H c.sd = some (.dK (drawD c left turn))) : DGet H c.sd (.str "great") (some (.ref c.sg)) := by
  rw [← val_great (a := .ref c.sg) (b := .ref c.sl) (d := .int left) (e := .int turn)]; exact DGet.k (k := kGreat) e
theorem put_left' {c : Co} {H : Hp} {left turn l : Int} (e : H c.sd = some (.dK (drawD c left turn))) : DPut H c.sd (.str "left") (.int l) (upd H c.sd (.dK (drawD c l turn))) := by
  have := DPut.k (k := kLeft) (v := .int l) e (by rw [sizeLine_eq]; show 4 < 16777216; decide)
  rw [put_left] at this
  exact this
theorem StAt.left {c : Co} {H : Hp} {great cells : List Int} {left turn l : Int} (h : StAt c H great cells left turn) (hl : 0 ≤ l) : StAt c (upd H c.sd (.dK (drawD c l turn))) great cells l turn := by
  obtain ⟨n1, n2⟩ := h.ne
  obtain ⟨e1, e2, e3, e4, e5, e6, e7, e8⟩ := h
  exact ⟨upd_same, by rw [upd_ne (Ne.symm n1)]; exact e2, by rw [upd_ne (Ne.symm n2)]; exact e3, e4, e5, hl, e7, e8⟩
theorem seq0 {n : Nat} (h : 0 < n) : seqIndex? 0 n = some 0 := by unfold seqIndex?; simp; omega
theorem draw_run {K : PySem.W.Frag} {D : Ends} {H : Hp} {vs : List V} {E : XK} (h : spW K 2 drawF vs H D.rt E) : tDraw K D (start ["state", "size_here", "found"] vs) H := by
  obtain ⟨c, ds, R, ho, a, _, bd, ⟨n, rfl, n0, n1, hF⟩, k⟩ := h
  cases a with
  | cons a1 a2 => cases a2 with
    | cons a2 a3 =>
      cases a3
      cases a1
      cases a2
      obtain ⟨great, cells, left, turn, hs⟩ := ho.inv.st
      have ht := hs.trn
      have ht0 : 0 ≤ turn := hs.2.2.2.2.2.2.1
      have bd' : turn.toNat + 1 ≤ most := by
        have : trn c.sd H + 1 ≤ most := bd
        rw [ht] at this; exact this
      have rest : ∀ H' great' left' turn', StAt c H' great' cells left' turn' → turn' ≤ turn + 1 → (∀ b o, H b = some o → b ≠ c.sd → b ≠ c.sg → H' b = some o) →
          (tSeq (tAsg (tOp rModI (tCB rIntI (tCons tLeft tNil)) (tVar 1)) (gName 2)) (tSeq (sDPut (tVar 0) (tC (.str "left")) (tOp rFdI tLeft (tVar 1))) (tRet (tVar 2)))) D [some (.ref c.sd), some (.int n), none] H' := by
        intro H' great' left' turn' hs' htt fr
        obtain ⟨q1, q2⟩ := hs'.ne
        have l0 : 0 ≤ left' := hs'.2.2.2.2.2.1
        refine ⟨.ref c.sd, rfl, c.sd, _, rfl, get_left hs'.1, .inl ⟨_, rfl, _, rfl, _, _, rfl, rfl, n0, ?_⟩⟩
        refine ⟨.ref c.sd, rfl, c.sd, _, rfl, get_left hs'.1, _, rfl, _, _, rfl, rfl, ⟨n0, by omega⟩, .ref c.sd, rfl, c.sd, _, rfl, put_left' hs'.1, _, rfl, ?_⟩
        have hs2 := hs'.left (Int.ediv_nonneg l0 (Int.le_of_lt n0))
        refine k (.int (left' % n)) _ _ (hF _ (Int.emod_nonneg _ (by omega)) (Int.emod_lt_of_pos _ n0)) ⟨hs2.inv, fun b o e m1 m2 => by rw [upd_ne m1]; exact fr b o e m1 m2, ?_⟩ (.int _)
        rw [hs2.trn, ht]
        show turn'.toNat ≤ turn.toNat + 1
        omega
      refine ⟨.ref c.sd, rfl, c.sd, _, rfl, get_left hs.1, left, 0, rfl, rfl, _, rfl, ?_⟩
      refine ite2 (fun hz => ?_) (fun hz => ?_)
      · obtain ⟨q1, q2⟩ := hs.ne
        refine ⟨.ref c.sd, rfl, c.sd, _, rfl, get_great hs.1, Nat.zero_le _, fun p hp => .inr (.inr ⟨c.sg, p, great.map V.int, rfl, rfl, ?_, SqL.of upd_same, _, rfl, ?_⟩)⟩
        · refine SqL.of ?_
          rw [upd_ne (ne_of_none hs.2.1 hp)]; exact hs.2.1
        have hs1 : StAt c (upd H p (.lst [])) great cells left turn := by
          obtain ⟨e1, e2, e3, r⟩ := hs
          exact ⟨by rw [upd_ne (ne_of_none e1 hp)]; exact e1, by rw [upd_ne (ne_of_none e2 hp)]; exact e2, by rw [upd_ne (ne_of_none e3 hp)]; exact e3, r⟩
        have fr1 : ∀ b o, H b = some o → upd H p (.lst []) b = some o := fun b o e => by rw [upd_ne (ne_of_none e hp)]; exact e
        generalize upd H p (.lst []) = H1 at hs1 fr1 ⊢
        cases great with
        | nil =>
          refine ite2 (fun hz => by cases hz) (fun hz => ?_)
          refine ⟨.ref c.sd, rfl, c, [], cells, left, turn, rfl, hs1, by omega, fun r H2 r0 hs2 fr2 => ?_⟩
          refine ⟨.ref c.sd, rfl, c.sd, _, rfl, put_left' hs2.1, ?_⟩
          exact rest _ _ _ _ (hs2.left r0) (Int.le_refl _) fun b o e m1 m2 => by rw [upd_ne m1]; exact fr2 b o (fr1 b o e) m1
        | cons g gs =>
          refine ite2 (fun hz => ?_) (fun hz => absurd rfl hz)
          obtain ⟨e1, e2, e3, e4, e5, e6, e7, e8⟩ := id hs1
          refine ⟨.ref c.sd, rfl, c.sd, _, rfl, get_great e1, .inl ⟨rfl, _, SqL.of e2⟩, c.sg, _, 0, 0, .int g, rfl, rfl, e2, by decide, by decide, ?_, rfl, ?_⟩
          · exact seq0 (by rw [List.length_map, List.length_cons]; omega)
          · have hs2 : StAt c (upd H1 c.sg (.lst (((g :: gs).map V.int).eraseIdx 0))) gs cells left turn := by
              refine ⟨by rw [upd_ne q1]; exact e1, upd_same, by rw [upd_ne e4]; exact e3, e4, ?_, e6, e7, fun x hx => e8 x (List.mem_cons_of_mem _ hx)⟩
              rw [List.length_cons] at e5
              omega
            refine ⟨.ref c.sd, rfl, c.sd, _, rfl, put_left' hs2.1, ?_⟩
            exact rest _ _ _ _ (hs2.left (e8 g List.mem_cons_self)) (by omega) fun b o e m1 m2 => by rw [upd_ne m1, upd_ne m2]; exact fr1 b o e
      · exact rest H great left turn hs (by omega) fun b o e _ _ => e
end DS
/-! DS13: _law_begun; the defs of the source, from the law's text. -/
namespace DS
open PySem PySem.Spec PyProof.Rows L2

def same_new {H : Hp} {p : Addr} {o : HO} (h : H p = none) : ∀ b x, H b = some x → upd H p o b = some x := fun b x e => by
  rw [upd_ne (ne_of_none e h)]
  exact e
def spBegun (K : PySem.W.Frag) : Sp := fun vs H Q _ => ∃ (a : Addr) (ns : List Int), vs = [.ref a] ∧ SqL K H a (ns.map V.int) ∧ ns.length ≤ 63 ∧
  ∀ (c : Co) (great cells : List Int) H', StAt c H' great cells 0 0 → H c.sd = none → H c.sg = none → (∀ b o, H b = some o → H' b = some o) → Q (.ref c.sd) H'
abbrev rAbsI : List V → Hp → VK → Prop := fun xs H Q => ∃ i, xs = [.int i] ∧ Q (.int (if i < 0 then -i else i)) H
abbrev rGeI : R2 := rI0 fun i j => .bl (decide (j ≤ i))
abbrev rPowI : R2 := rI CPow fun i j => .int (i ^ j.toNat)
abbrev rSubI : R2 := rI0 fun i j => .int (i - j)
abbrev tAbs : TE := tCB rAbsI (tCons (tVar 2) tNil)
abbrev tE18 : TE := tOp rPowI (tC (.int 10)) (tC (.int 18))
def tBegun (K : PySem.W.Frag) : TS :=
  tSeq (tAsg (tLc (iList K (tVar 0)) (gName 2) (tTest (tOp rGeI tAbs tE18)) (tOp rSubI tAbs tE18) [2]) (gName 1))
    (tRet (tDisp [(tC (.str "great"), tVar 1), (tC (.str "cells"), tLc (iList K (tVar 0)) (gName 2) tYes tAbs [2]), (tC (.str "left"), tC (.int 0)), (tC (.str "turn"), tC (.int 0))]))
theorem pow18 : CPow 10 18 := ⟨by decide, by decide, by decide⟩
theorem begun_run {K : PySem.W.Frag} {D : Ends} {H : Hp} {vs : List V} {E : XK} (h : spBegun K vs H D.rt E) : tBegun K D (start ["script", "great", "cell"] vs) H := by
  obtain ⟨a, ns, rfl, hS, hl, q⟩ := h
  have hsz : 63 < sizeLine := by rw [sizeLine_eq]; decide
  refine ⟨.ref a, rfl, a, rfl, ⟨_, hS⟩, fun p hp => ?_⟩
  have hp0 := hp
  refine ⟨fun i m H' => m + i = ns.length ∧ ∃ out : List Int, H' p = some (.lst (out.map V.int)) ∧ out.length ≤ i ∧ (∀ g ∈ out, 0 ≤ g) ∧ ∀ b o, H b = some o → H' b = some o, ⟨ns.length, rfl, [], upd_same, Nat.le_refl _, (fun g hg => by cases hg), same_new hp⟩, ?_⟩
  rintro i m H1 ⟨hm, out, ho, hol, hpos, fr⟩
  have hS1 : SqL K H1 a (ns.map V.int) := Same.seq fr hS
  by_cases hi : i < ns.length
  · have hx : (ns.map V.int)[i]? = some (.int ns[i]) := by rw [List.getElem?_map, List.getElem?_eq_getElem hi]; rfl
    refine .inr ⟨⟨_, _, hS1, hx⟩, fun H' => ∃ out : List Int, H' p = some (.lst (out.map V.int)) ∧ out.length ≤ i + 1 ∧ (∀ g ∈ out, 0 ≤ g) ∧ ∀ b o, H b = some o → H' b = some o, fun H' h => ⟨m - 1, by omega, by omega, h⟩, ?_⟩
    rintro x H2 ⟨rfl, hxx⟩
    have ex := hxx _ hS1
    rw [hx] at ex
    cases ex
    refine ⟨rfl, ?_⟩
    refine ⟨_, rfl, _, rfl, 10, 18, rfl, rfl, pow18, _, _, rfl, rfl, _, rfl, ?_⟩
    refine ite2 (fun hge => ?_) (fun _ => ⟨out, ho, by omega, hpos, fr⟩)
    have hge := of_decide_eq_true hge
    refine ⟨_, rfl, _, rfl, 10, 18, rfl, rfl, pow18, _, _, rfl, rfl, _, ho, by rw [List.length_map]; omega, ?_⟩
    refine ⟨out ++ [(if ns[i] < 0 then -ns[i] else ns[i]) - 10 ^ (18 : Int).toNat], ?_, ?_, ?_, fun b o e => ?_⟩
    · rw [upd_same, List.map_append]; rfl
    · rw [List.length_append, List.length_singleton]; omega
    · intro g hg
      rcases List.mem_append.mp hg with z | z
      · exact hpos g z
      · rw [List.mem_singleton] at z
        subst z
        omega
    · rw [upd_ne (ne_of_none e hp)]; exact fr b o e
  · have : i = ns.length := by omega
    subst this
    refine .inl ⟨⟨_, hS1, by rw [List.length_map]; exact Nat.le_refl _⟩, ?_⟩
    -- the dict
    intro d hd
    have fr1 : ∀ b o, H b = some o → upd H1 d (.dK []) b = some o := fun b o e => same_new hd _ _ (fr b o e)
    have hp1 : upd H1 d (.dK []) p = some (.lst (out.map V.int)) := same_new hd _ _ ho
    have hd1 : upd H1 d (.dK []) d = some (.dK []) := upd_same
    have hd0 : H d = none := by
      cases e : H d with
      | none => rfl
      | some o => rw [fr d o e] at hd; cases hd
    generalize upd H1 d (.dK []) = H2 at fr1 hp1 hd1 ⊢
    refine ⟨.ref p, rfl, .ref a, rfl, a, rfl, ⟨_, Same.seq fr1 hS⟩, fun l hl2 => ?_⟩
    have hl0 : H l = none := by
      cases e : H l with
      | none => rfl
      | some o => rw [fr1 l o e] at hl2; cases hl2
    have npl : p ≠ l := ne_of_none hp1 hl2
    have ndl : d ≠ l := ne_of_none hd1 hl2
    have ndp : d ≠ p := fun z => by rw [z, hp1] at hd1; cases hd1
    refine ⟨fun i m H' => m + i = ns.length ∧ ∃ cells : List Int, H' l = some (.lst (cells.map V.int)) ∧ cells.length ≤ i ∧ ∀ b o, H2 b = some o → H' b = some o, ⟨ns.length, rfl, [], upd_same, Nat.le_refl _, same_new hl2⟩, ?_⟩
    rintro i m H3 ⟨hm, cells, hc, hcl, fr3⟩
    have hS3 : SqL K H3 a (ns.map V.int) := Same.seq (fun b o e => fr3 b o (fr1 b o e)) hS
    by_cases hi : i < ns.length
    · have hx : (ns.map V.int)[i]? = some (.int ns[i]) := by rw [List.getElem?_map, List.getElem?_eq_getElem hi]; rfl
      refine .inr ⟨⟨_, _, hS3, hx⟩, fun H' => ∃ cells : List Int, H' l = some (.lst (cells.map V.int)) ∧ cells.length ≤ i + 1 ∧ ∀ b o, H2 b = some o → H' b = some o, fun H' h => ⟨m - 1, by omega, by omega, h⟩, ?_⟩
      rintro x H4 ⟨rfl, hxx⟩
      have ex := hxx _ hS3
      rw [hx] at ex
      cases ex
      refine ⟨rfl, ?_⟩
      refine ⟨_, rfl, _, rfl, _, hc, by rw [List.length_map]; omega, cells ++ [if ns[i] < 0 then -ns[i] else ns[i]], ?_, ?_, fun b o e => ?_⟩
      · rw [upd_same, List.map_append]; rfl
      · rw [List.length_append, List.length_singleton]; omega
      · rw [upd_ne (ne_of_none e hl2)]; exact fr3 b o e
    · have : i = ns.length := by omega
      subst this
      refine .inl ⟨⟨_, hS3, by rw [List.length_map]; exact Nat.le_refl _⟩, ?_⟩
      refine ⟨fr3 _ _ hd1, [(kGreat, .ref p), (kCells, .ref l), (kLeft, .int 0), (kTurn, .int 0)], rfl, by show 4 ≤ 15; decide, ?_⟩
      rw [merge4]
      refine q ⟨fun b => b = d ∨ b = p, d, p, l⟩ out cells _ ⟨upd_same, ?_, ?_, Ne.symm npl, by omega, Int.le_refl _, Int.le_refl _, hpos⟩ hd0 hp0 fun b o e => ?_
      · rw [upd_ne (Ne.symm ndp)]; exact fr3 _ _ hp1
      · rw [upd_ne (Ne.symm ndl)]; exact hc
      · rw [upd_ne (ne_of_none e hd0)]; exact fr3 _ _ (fr1 _ _ e)
end DS
/-! DS14: a law's own def; what is known of a law's text. -/
namespace DS
open PySem PySem.Spec PyProof.Rows L2

/-! ### abs, int -/
def absD : List D → Option D
  | [.int i] => some (.int (if i < 0 then -i else i))
  | _ => none
theorem s_abs {K : PySem.W.Frag} : SemC K absD rAbsI := by
  intro c H vs ds z Q ho a e k
  match ds, a, e with
  | [.int i], .cons (.int _) .nil, e => cases e; exact ⟨i, rfl, k _ H (Step.refl ho.inv) (.int _)⟩
def intD : List D → Option D
  | [.int i] => some (.int i)
  | [.bl b] => some (.int (if b then 1 else 0))
  | _ => none
theorem s_int {K : PySem.W.Frag} : SemC K intD rIntI := by
  intro c H vs ds z Q ho a e k
  match ds, a, e with
  | [.int i], .cons (.int _) .nil, e => cases e; exact .inl ⟨i, rfl, k _ H (Step.refl ho.inv) (.int _)⟩
  | [.bl i], .cons (.bl _) .nil, e => cases e; exact .inr ⟨i, rfl, k _ H (Step.refl ho.inv) (.int _)⟩

/-! ### a def of the text, under its name -/
structure Have (K : PySem.W.Frag) (mg : Str → Option Value) (x : Str) (st : Stmt) : Prop where
  ex : ∃ f fd, mg x = some (.ref f) ∧ L2.Fun K x x st f fd
theorem Have.mk' {K : PySem.W.Frag} {h : Heap} {mg : Str → Option Value} {x : Str} {st : Stmt} {f : Addr} {oc : Value} {od an : Option Addr} {osl : Array (Option Value)} {kV doc pm cdv ct : Value} (X : K.In h) (G : h.Ns mainGlobals mg) (a : PySem.W.nsIn K mainGlobals x = some (some (.ref f)))
    (l : K.lookup f = some ⟨oc, od, .func (PySem.W.fnOf x x (defArgs st) (defBody st) (defScope st) .none kV doc pm an cdv ct), osl⟩) (c : PySem.W.codeIn K cdv x = true) (k : PySem.W.keepIn K (.ref f) = true) : Have K mg x st :=
  ⟨⟨f, _, PySem.W.mg_of X G a, fun_mk l c k⟩⟩
theorem Glob.int {K : PySem.W.Frag} {h : Heap} {mg : Str → Option Value} {x : Str} {i : Int} {t : Tok} (X : K.In h) (G : h.Ns mainGlobals mg) (a : PySem.W.nsIn K mainGlobals x = some (some (.int i t))) : Glob K mg x (.int i) :=
  ⟨⟨_, .int i, PySem.W.mg_of X G a, ⟨t, rfl⟩, fun _ _ => .int i⟩⟩
theorem Glob.str {K : PySem.W.Frag} {h : Heap} {mg : Str → Option Value} {x : Str} {i : Str} {t : Tok} (X : K.In h) (G : h.Ns mainGlobals mg) (a : PySem.W.nsIn K mainGlobals x = some (some (.str i t))) : Glob K mg x (.str i) :=
  ⟨⟨_, .str i, PySem.W.mg_of X G a, ⟨t, rfl⟩, fun _ _ => .str i⟩⟩
section
variable {P : Program} {w : World} {K : PySem.W.Frag} {mg : Str → Option Value} {base : Heap}
/-- how many values bind to the names ps -/
def BindsN (st : Stmt) (x : Str) (ps : List Str) : Prop := ∀ (kV doc pm : Value) (an : Option Addr) (cdv ct : Value) (us : List Value), us.length = ps.length → bindArgs (PySem.W.fnOf x x (defArgs st) (defBody st) (defScope st) .none kV doc pm an cdv ct) ⟨us, []⟩ = pure (ps.zip us)
def BindsKW (st : Stmt) (x : Str) (ps ks : List Str) (pm : List Nat) : Prop := ∀ (kV doc pmv : Value) (an : Option Addr) (cdv ct : Value) (ws : List Value), ws.length = ks.length → bindArgs (PySem.W.fnOf x x (defArgs st) (defBody st) (defScope st) .none kV doc pmv an cdv ct) ⟨[], ks.zip ws⟩ = pure (ps.zip (picks pm ws))
theorem fnW_of {x : Str} {st : Stmt} {N ps : List Str} {m : WS} {k : Nat} (F : Have K mg x st) (S : FnScope N ps (defScope st)) (hp : ps.length ≤ N.length) (hbd : BindsN st x ps) (hb : DSs (gOf P w K mg base k N st false) (defBody st) m) : FnW P w K mg base (k + 1) x ps.length (fnF N m) := by
  obtain ⟨f, fd, hm, F⟩ := F.ex
  exact fnW_mk F S hp hm (F.binds hbd) hb
theorem fnKW_of {x : Str} {st : Stmt} {N ps ks : List Str} {pm : List Nat} {m : WS} {k : Nat} (F : Have K mg x st) (S : FnScope N ps (defScope st)) (hp : ps.length ≤ N.length) (hbd : BindsKW st x ps ks pm) (hb : DSs (gOf P w K mg base k N st false) (defBody st) m) : FnKW P w K mg base (k + 1) x ks pm ps.length (fnF N m) := by
  obtain ⟨f, fd, hm, F⟩ := F.ex
  refine ⟨⟨f, fd, ps, rfl, fn_ok F S hp hb, hm, F.kp, fun s ws _ hw _ => ?_⟩⟩
  obtain ⟨oc, od, kV, doc, pmv, an, cdv, ct, osl, rfl, lk, hcd⟩ := F.ex
  exact .of_eq (hbd kV doc pmv an cdv ct ws hw)
/-- a def that is walked by hand -/
theorem fnW_hand {x : Str} {st : Stmt} {N ps : List Str} {k n : Nat} {F : WFn} {t : PySem.W.Frag → TS} (Fh : Have K mg x st) (S : FnScope N ps (defScope st)) (hbd : BindsN st x ps) (hn : ps.length = n)
    (hb : ∀ y, (gOf P w K mg base k N st false).Ok y → PSs ((gOf P w K mg base k N st false).cx y) (defBody st) (t K))
    (hr : ∀ {D : Ends} {H : Hp} {vs : List V} {E : XK}, spW K n F vs H D.rt E → t K D (start N vs) H) : FnW P w K mg base (k + 1) x n F := by
  obtain ⟨f, fd, hm, Fh⟩ := Fh.ex
  subst hn
  refine ⟨⟨f, fd, ps, rfl, Fh.ok S (fun vs H Q E ⟨c, ds, R, _, a, l, _⟩ => a.length.trans l) (fun cdv A outer s H vs Q E hrm h => ?_), hm, Fh.kp, Fh.binds hbd⟩⟩
  have ok : (gOf P w K mg base k N st false).Ok { A := A.deeper (envOfC x (defScope st) s.heap.objs.size f cdv), s0 := s, H0 := H, env := envOfC x (defScope st) s.heap.objs.size f cdv, outer := outer, stack := envOfC x (defScope st) s.heap.objs.size f cdv :: outer, ex := [], pn := [], xe := fun _ _ => False, E := fun _ _ _ => True } :=
    ⟨rfl, hrm, S.nd, PassesOwn.never, fun z => Bool.noConfusion z⟩
  exact ⟨t K, hb _ ok, hr (D := { nx := fun _ H' => Q .non H', rt := Q }) h⟩
/-- .. whose promise is told of the heap -/
structure FnH (P : Program) (w : World) (K : PySem.W.Frag) (mg : Str → Option Value) (base : Heap) (k : Nat) (x : Str) (sp : Sp) : Prop where
  ex : ∃ f fd ps, FnOk P w K mg base L2.CX0 k f fd ps sp ∧ mg x = some (.ref f) ∧ PySem.W.keepIn K (.ref f) = true ∧ Binds K fd ps []
theorem fnH_hand {x : Str} {st : Stmt} {N ps : List Str} {k n : Nat} {sp : Sp} {t : PySem.W.Frag → TS} (Fh : Have K mg x st) (S : FnScope N ps (defScope st)) (hbd : BindsN st x ps) (hl : ∀ vs H Q E, sp vs H Q E → vs.length = ps.length)
    (hb : ∀ y, (gOf P w K mg base k N st false).Ok y → PSs ((gOf P w K mg base k N st false).cx y) (defBody st) (t K))
    (hr : ∀ {D : Ends} {H : Hp} {vs : List V} {E : XK}, sp vs H D.rt E → t K D (start N vs) H) : FnH P w K mg base (k + 1) x sp := by
  obtain ⟨f, fd, hm, Fh⟩ := Fh.ex
  refine ⟨⟨f, fd, ps, Fh.ok S hl (fun cdv A outer s H vs Q E hrm h => ?_), hm, Fh.kp, Fh.binds hbd⟩⟩
  have ok : (gOf P w K mg base k N st false).Ok { A := A.deeper (envOfC x (defScope st) s.heap.objs.size f cdv), s0 := s, H0 := H, env := envOfC x (defScope st) s.heap.objs.size f cdv, outer := outer, stack := envOfC x (defScope st) s.heap.objs.size f cdv :: outer, ex := [], pn := [], xe := fun _ _ => False, E := fun _ _ _ => True } :=
    ⟨rfl, hrm, S.nd, PassesOwn.never, fun z => Bool.noConfusion z⟩
  exact ⟨t K, hb _ ok, hr (D := { nx := fun _ H' => Q .non H', rt := Q }) h⟩

/-! ### the law -/
def spLaw (K : PySem.W.Frag) : Sp := fun vs H Q _ => ∃ (a : Addr) (ns : List Int), vs = [.ref a] ∧ SqL K H a (ns.map V.int) ∧ ns.length ≤ 63 ∧ ∀ H', Q (.bl true) H'
/-- the law answers True from here on, whatever is drawn -/
def lawE (N : List Str) : Env := ⟨.un :: .sh .st :: List.replicate (N.length - 2) .un, fun _ => False⟩
def LawTrue (N : List Str) (m : WS) : Prop := m.n ≤ most ∧ m { nx := fun _ => False, rt := fun d => d = .bl true } (lawE N)
theorem law_cf {K : PySem.W.Frag} {c : Co} {H : Hp} {great cells : List Int} {left turn : Int} {N : List Str} {a : Addr} (h : StAt c H great cells left turn) (hN : 2 ≤ N.length) : Cf K { c with O := fun b => b = c.sd ∨ b = c.sg } { c with O := fun b => b = c.sd ∨ b = c.sg } (fun _ => 0) H (fun _ _ _ => True) ((start N [V.ref a]).set 1 (some (.ref c.sd))) H (lawE N) where
  sd := rfl
  sg := rfl
  scl := rfl
  le := fun _ h => h
  st := Run.refl h.inv
  dom := fun b hb => hb.elim (fun z => by rw [z]; exact ⟨_, h.1⟩) fun z => by rw [z]; exact ⟨_, h.2.1⟩
  dom0 := fun b hb => hb.elim (fun z => by rw [z]; exact ⟨_, h.1⟩) fun z => by rw [z]; exact ⟨_, h.2.1⟩
  osd := .inl rfl
  osg := .inr rfl
  own := fun i x e o => by
    exfalso
    have hm := List.mem_of_getElem? e
    rcases List.mem_cons.mp hm with z | hm
    · subst z; exact o.elim
    rcases List.mem_cons.mp hm with z | hm
    · subst z; exact o.elim
    rw [List.mem_replicate] at hm
    obtain ⟨_, rfl⟩ := hm
    exact o.elim
  inj := fun i j x z e _ o => by
    exfalso
    have hm := List.mem_of_getElem? e
    rcases List.mem_cons.mp hm with z | hm
    · subst z; exact o.elim
    rcases List.mem_cons.mp hm with z | hm
    · subst z; exact o.elim
    rw [List.mem_replicate] at hm
    obtain ⟨_, rfl⟩ := hm
    exact o.elim
  sl := fun i x e => by
    match i, e with
    | 0, e => cases e; exact .un
    | 1, e =>
      cases e
      have : ((start N [V.ref a]).set 1 (some (.ref c.sd)))[1]? = some (some (.ref c.sd)) := by
        rw [List.getElem?_set, if_pos rfl, if_pos]
        show 1 < (List.map some [V.ref a] ++ List.replicate (N.length - 1) none).length
        rw [List.length_append, List.length_replicate]
        show 1 < 1 + (N.length - 1)
        omega
      rw [this]
      exact .sh .st
    | i + 2, e =>
      have hm := List.mem_of_getElem? (show (List.replicate (N.length - 2) Sl.un)[i]? = some x from e)
      rw [List.mem_replicate] at hm
      rw [hm.2]
      exact .un
  len := by
    show ((List.map some [V.ref a] ++ List.replicate (N.length - 1) none).set 1 (some (V.ref c.sd))).length = (Sl.un :: Sl.sh .st :: List.replicate (N.length - 2) Sl.un).length
    rw [List.length_set, List.length_append, List.length_replicate, List.length_cons, List.length_cons, List.length_replicate]
    show 1 + (N.length - 1) = N.length - 2 + 1 + 1
    omega
  ex := fun x z => z.elim
theorem law_ok {st : Stmt} {N : List Str} {m : WS} {k : Nat} {f : Addr} {fd : FuncData} {rest : List Stmt} {p1 p2 p3 p4 p5 : Pos} (F : L2.Fun K "law" "law" st f fd) (S : FnScope N ["script"] (defScope st)) (B : FnH P w K mg base 1 "_law_begun" (spBegun K)) (hk : 1 ≤ k)
    (hst : defBody st = .Assign [.Name "state" p1] (.Call (.Name "_law_begun" p2) [.Name "script" p3] [] p4) p5 :: rest) (hb : DSs (gOf P w K mg base k N st false) rest m) (hN2 : 2 ≤ N.length)
    (h0 : N[0]? = some ("script" : Str)) (h1 : N[1]? = some ("state" : Str)) (hg : (defScope st).names.lookup ("_law_begun" : Str) = some .globalImplicit) (hs : (defScope st).names.lookup ("state" : Str) = some .local ∨ (defScope st).names.lookup ("state" : Str) = some .cell)
    (ht : LawTrue N m) : FnOk P w K mg base L2.CX0 (k + 1) f fd ["script"] (spLaw K) := by
  obtain ⟨t, p⟩ := hb
  obtain ⟨fB, fdB, psB, FB, hmB, hkB, hbB⟩ := B.ex
  refine F.ok S (fun vs H Q E ⟨a, ns, e, _⟩ => by rw [e]; rfl) (fun cdv A outer s H vs Q E hr h => ?_)
  obtain ⟨a, ns, rfl, hS, hl, q⟩ := h
  have ok : (gOf P w K mg base k N st false).Ok { A := A.deeper (envOfC "law" (defScope st) s.heap.objs.size f cdv), s0 := s, H0 := H, env := envOfC "law" (defScope st) s.heap.objs.size f cdv, outer := outer, stack := envOfC "law" (defScope st) s.heap.objs.size f cdv :: outer, ex := [], pn := [], xe := fun _ _ => False, E := fun _ _ _ => True } :=
    ⟨rfl, hr, S.nd, PassesOwn.never, fun z => Bool.noConfusion z⟩
  refine ⟨tSeq (tAsg (tCall (spBegun K) [] L2.E0 (tCons (tVar 0) tNil)) (gName 1)) (t fun _ _ _ => True), ?_, ?_⟩
  · rw [hst]
    refine pss_cons (ps_set (i := 1) ok.nd h1 (ok.loc hs) (pe_call FB (hr.mono hk) (ok.gl hg) hmB hkB hbB .nil L2.pass0 (pa_cons (pe_var h0 (S.par "script" (by simp) |>.elim Or.inl fun z => Or.inr (Or.inl z))) pa_nil)) (by rfl) (.inl rfl)) (p _ ok).1
  · have hz : 0 < N.length := by omega
    refine ⟨.ref a, rfl, a, ns, rfl, hS, hl, fun c great cells H' hs' _ _ fr => ?_⟩
    have cf := law_cf (K := K) (a := a) hs' hN2
    refine (p _ ok).2 _ _ (fun _ => 0) H' _ H' (lawE N) _ _ cf ?_ ht.2 ?_
    · rw [show trn _ H' = (0 : Int).toNat from hs'.trn]
      show 0 + m.n ≤ most
      rw [Nat.zero_add]
      exact ht.1
    · exact ⟨fun _ _ _ _ _ _ _ z => z.elim, fun _ _ _ _ _ _ _ z => z.elim, fun _ _ _ _ _ _ _ z => z.elim, fun d v H2 hR _ _ a1 => by
        have hR : d = .bl true := hR
        subst hR
        cases a1
        exact q H2⟩
end
end DS
/-! DS15: raw rules for the source of draws. -/
namespace DS
open PySem PySem.Spec PyProof.Rows L2
theorem blk_of {P : Program} {w : World} {K : PySem.W.Frag} {mg : Str → Option Value} {base : Heap} {k : Nat} {N : List Str} {st : Stmt} {rs : Bool} {scope : Scope} {own : List (Str × Nat)} (h : blkC N (defScope st) scope own = true) : blkC (gOf P w K mg base k N st rs).N (gOf P w K mg base k N st rs).sc scope own = true := h
theorem blk_of2 {P : Program} {w : World} {K : PySem.W.Frag} {mg : Str → Option Value} {base : Heap} {k : Nat} {N : List Str} {st : Stmt} {rs : Bool} {scope scope2 : Scope} {own : List (Str × Nat)} (h : blkC N (relS scope (defScope st)) scope2 own = true) : blkC ((gOf P w K mg base k N st rs).blk scope).N ((gOf P w K mg base k N st rs).blk scope).sc scope2 own = true := h
/-- a def of which nothing is promised -/
theorem fnW_void {P : Program} {w : World} {K : PySem.W.Frag} {mg : Str → Option Value} {base : Heap} {x : Str} {st : Stmt} {N ps : List Str} {n : Nat} (F : Have K mg x st) (S : FnScope N ps (defScope st)) (hp : ps.length = n) (hbd : BindsN st x ps) : FnW P w K mg base 1 x n ⟨fun _ _ => False, 0⟩ := by
  obtain ⟨f, fd, hm, F⟩ := F.ex
  subst hp
  exact ⟨⟨f, fd, ps, rfl, F.ok (k := 0) S (fun vs H Q E ⟨c, ds, R, _, a, l, _⟩ => a.length.trans l) (fun cdv A outer s H vs Q E hrm ⟨c, ds, R, _, _, _, _, h, _⟩ => h.elim), hm, F.kp, F.binds hbd⟩⟩
theorem boot_abs : bootBuiltins "abs" = some (.builtin "abs") := by decide +kernel
theorem boot_int' : bootBuiltins "int" = some (.type "int") := by decide +kernel
section
variable {g : G} {y : Dyn} (ok : g.Ok y)
include ok
theorem raw_var (i : Nat) {x : Str} {pos : Pos} (hN : g.N[i]? = some x := by rfl) (hv : g.sc.names.lookup x = some .local ∨ g.sc.names.lookup x = some .cell ∨ g.sc.names.lookup x = some .free := by first | exact Or.inl rfl | exact Or.inr (Or.inl rfl) | exact Or.inr (Or.inr rfl))
    (hd : (x == ("__debug__" : Str)) = false := by decide) (hcd : (x == ("__classdict__" : Str)) = false := by decide) : PE (g.cx y) (.Name x pos) (tVar i) := pe_var (X := g.cx y) hN (visOf ok hv) hd hcd
theorem raw_name (i : Nat) {x : Str} {pos : Pos} (hi : g.N[i]? = some x := by rfl) (hx : g.sc.names.lookup x = some .local ∨ g.sc.names.lookup x = some .cell := by first | exact Or.inl rfl | exact Or.inr rfl)
    (hf : g.fn x = true ∨ g.sc.names.lookup x = some .local := by first | exact Or.inl rfl | exact Or.inr rfl) : PG (g.cx y) (.Name x pos) (gName i) := pg_name (X := g.cx y) ok.nd hi (ok.loc hx) (ok.hf hf)
theorem raw_set (i : Nat) {x : Str} {e : Expr} {te : TE} {pos pos' : Pos} (he : PE (g.cx y) e te) (hs : swapsWith e (some (.Name x pos')) pos.line y.env = pure false) (hi : g.N[i]? = some x := by rfl) (hx : g.sc.names.lookup x = some .local ∨ g.sc.names.lookup x = some .cell := by first | exact Or.inl rfl | exact Or.inr rfl)
    (hf : g.fn x = true ∨ g.sc.names.lookup x = some .local := by first | exact Or.inl rfl | exact Or.inr rfl) : PS (g.cx y) (.Assign [.Name x pos'] e pos) (tAsg te (gName i)) := ps_set (X := g.cx y) ok.nd hi (ok.loc hx) he hs (ok.hf hf)
theorem raw_abs (i : Nat) {p1 p2 p3 : Pos} (hm : g.mg "abs" = none) (hg : g.sc.names.lookup ("abs" : Str) = some .globalImplicit := by rfl) (hN : g.N[i]? = some ("cell" : Str) := by rfl) (hv : g.sc.names.lookup ("cell" : Str) = some .local ∨ g.sc.names.lookup ("cell" : Str) = some .cell ∨ g.sc.names.lookup ("cell" : Str) = some .free := by first | exact Or.inl rfl | exact Or.inr (Or.inl rfl) | exact Or.inr (Or.inr rfl)) :
    PE (g.cx y) (.Call (.Name "abs" p1) [.Name "cell" p2] [] p3) (tCB rAbsI (tCons (tVar i) tNil)) := pe_callB call_abs (ok.gl hg) hm boot_abs (pa_cons (pe_var (X := g.cx y) hN (visOf ok hv)) pa_nil)
theorem raw_int {e : Expr} {te : TE} {p1 p3 : Pos} (hm : g.mg "int" = none) (he : PE (g.cx y) e te) (hs : starEach [e] y.env = (false, eval e y.env) :: starEach [] y.env) (hg : g.sc.names.lookup ("int" : Str) = some .globalImplicit := by rfl) :
    PE (g.cx y) (.Call (.Name "int" p1) [e] [] p3) (tCB rIntI (tCons te tNil)) := pe_callTy call_int1 (ok.gl hg) hm boot_int' (pa_cons he pa_nil hs) (by decide) (by decide) hs (by rfl)
theorem raw_par (i j : Nat) {x z : Str} {a b : Expr} {ta : TA} {px py pt pos : Pos} {kt k2 pt2} (ha : PA (g.cx y) [a, b] ta) (hij : i ≠ j := by decide) (hi : g.N[i]? = some x := by rfl) (hj : g.N[j]? = some z := by rfl)
    (hx : g.sc.names.lookup x = some .local := by rfl) (hy : g.sc.names.lookup z = some .local := by rfl)
    (hw : ∀ env : PySem.Env, env.scope = g.sc → swappedStores [.Tuple [.Name x px, .Name z py] kt pt] (.Tuple [a, b] k2 pt2) env = pure (some [x, z]) := by
      intro env h
      unfold swappedStores
      first | rfl | (simp only [Env.kindOf, Env.blockKind, h]; rfl) | (simp only [Env.kindOf, Env.blockKind, h]; decide +kernel))
    (hs : ∀ env, swapsWithSole [.Tuple [.Name x px, .Name z py] kt pt] (.Tuple [a, b] k2 pt2) pos.line env = pure false := by intro _; rfl) :
    PS (g.cx y) (.Assign [.Tuple [.Name x px, .Name z py] kt pt] (.Tuple [a, b] k2 pt2) pos) (tPar i j ta) :=
  ps_par (X := g.cx y) rfl ok.nd hi hj hij (by show y.env.scope.names.lookup x = _; rw [ok.sc]; exact hx) (by show y.env.scope.names.lookup z = _; rw [ok.sc]; exact hy) ha (hw _ ok.sc) (hs _)
end
end DS
/-! DS16: the meanings, to be read. -/
namespace DS
open PySem PySem.Spec PyProof.Rows L2
section
variable {r : Env} {W : WEnds} {R : D → Prop} {RT : Bool → Prop} {RA : List D → Prop} {RI : List D → Prop} {RO : Option Int → Prop} {RE : Env → Prop} {RS : Sl → Prop}
@[simp] theorem f_eVar {i : Nat} : (eVar i).f r R = ∃ d, r.sl[i]? = some (.sh d) ∧ R d := rfl
@[simp] theorem f_eC {d : D} : (eC d).f r R = R d := rfl
@[simp] theorem f_eOp {f a b} : (eOp f a b).f r R = a.f r fun x => b.f r fun y => ∃ z, f x y = some z ∧ R z := rfl
@[simp] theorem f_eUn {f a} : (eUn f a).f r R = a.f r fun x => ∃ z, f x = some z ∧ R z := rfl
@[simp] theorem f_tV {m} : (tV m).f r RT = m.f r fun d => ∃ b, d = .bl b ∧ RT b := rfl
@[simp] theorem f_eCh {f f' a b c} : (eCh f f' a b c).f r R = a.f r fun x => b.f r fun y => ∃ k, f x y = some (.bl k) ∧ if k = true then c.f r fun w => ∃ z, f' y w = some z ∧ R z else R (.bl false) := rfl
@[simp] theorem f_cAnd {a b} : (cAnd a b).f r RT = a.f r fun x => if x = true then b.f r RT else RT false := rfl
@[simp] theorem f_cOr {a b} : (cOr a b).f r RT = a.f r fun x => if x = true then RT true else b.f r RT := rfl
@[simp] theorem f_cNot {a} : (cNot a).f r RT = a.f r fun x => RT (!x) := rfl
@[simp] theorem f_eAnd {a b} : (eAnd a b).f r R = a.f r fun x => ∃ k, x = .bl k ∧ if k = true then b.f r R else R (.bl false) := rfl
@[simp] theorem f_eOr {a b} : (eOr a b).f r R = a.f r fun x => ∃ k, x = .bl k ∧ if k = true then R (.bl true) else b.f r R := rfl
@[simp] theorem f_eNot {a} : (eNot a).f r R = a.f r fun x => ∃ k, x = .bl k ∧ R (.bl (!k)) := rfl
@[simp] theorem f_eIf {c a b} : (eIf c a b).f r R = c.f r fun k => if k = true then a.f r R else b.f r R := rfl
@[simp] theorem f_aNil : aNil.f r RA = RA [] := rfl
@[simp] theorem f_aCons {a b} : (aCons a b).f r RA = a.f r fun x => b.f r fun xs => RA (x :: xs) := rfl
@[simp] theorem f_eTup {a} : (eTup a).f r R = a.f r fun ds => ds.length ≤ sizeLine ∧ R (.tup ds) := rfl
@[simp] theorem f_eLst {a} : (eLst a).f r R = a.f r fun ds => ds.length ≤ sizeLine ∧ R (.lst ds) := rfl
@[simp] theorem f_eCB {f a} : (eCB f a).f r R = a.f r fun ds => ∃ z, f ds = some z ∧ R z := rfl
@[simp] theorem f_eCall {F a} : (eCall F a).f r R = a.f r fun ds => F.f ds R := rfl
@[simp] theorem f_eCallK {pm F a} : (eCallK pm F a).f r R = a.f r fun ds => F.f (picks pm ds) R := rfl
@[simp] theorem f_oNo : oNo.f r RO = RO none := rfl
@[simp] theorem f_oYes {m} : (oYes m).f r RO = m.f r fun d => ∃ i, d = .int i ∧ RO (some i) := rfl
@[simp] theorem f_eSl {a lo hi} : (eSl a lo hi).f r R = a.f r fun x => lo.f r fun l => hi.f r fun h => ∃ z, slD x l h = some z ∧ R z := rfl
@[simp] theorem f_eRev {m} : (eRev m).f r R = m.f r fun d => ∃ ds, d = .tup ds ∧ R (.tup ds.reverse) := rfl
@[simp] theorem f_iSeq {m} : (iSeq m).f r RI = m.f r fun d => ∃ ds, items d = some ds ∧ RI ds := rfl
@[simp] theorem f_iRange {m} : (iRange m).f r RI = m.f r fun ds => ∃ n : Int, ds = [.int n] ∧ -(2 ^ 62) ≤ n ∧ n.toNat ≤ sizeLine ∧ RI (upto n.toNat) := rfl
@[simp] theorem f_iEnum {m} : (iEnum m).f r RI = m.f r fun ds => ∃ d l, ds = [d] ∧ itemsS d = some l ∧ l.length ≤ sizeLine ∧ RI (numd 0 l) := rfl
@[simp] theorem f_gN {i : Nat} {d : D} : gN i d r RE = RE (r.put i d) := rfl
@[simp] theorem f_gP {i j : Nat} {d : D} : gP i j d r RE = ∃ x y, d = .tup [x, y] ∧ RE ((r.put i x).put j y) := rfl
@[simp] theorem f_cYes : cYes.f r RT = RT true := rfl
@[simp] theorem f_eLc {mi mg mc me vs} : (eLc mi mg mc me vs).f r R = mi.f r fun ds => lcW mg mc me (wipeE r vs) (fun out => R (.lst out)) ds [] := rfl
@[simp] theorem f_fLc {mi mg mc me vs} : (fLc mi mg mc me vs).f r RS = mi.f r fun ds => lcW mg mc me (wipeE r vs) (fun out => RS (.ol out)) ds [] := rfl
@[simp] theorem f_fLc2e {mi mg mc mi1 mg1 mc1 me vs vs1} : (fLc2 mi mg mc mi1 mg1 mc1 me vs vs1).e.f r R = mi.f r fun ds => ds.length ≤ 4096 ∧ lcW2 mg mc mi1 mg1 mc1 me vs1 (wipeE r vs) (fun out => R (.lst out)) ds [] := rfl
@[simp] theorem f_fLst {a} : (fLst a).f r RS = a.f r fun ds => ds.length ≤ sizeLine ∧ RS (.ol ds) := rfl
@[simp] theorem f_eGetT {i : Nat} {ma : WA} : (eGetT i ma).f r R = ∃ kvs, r.sl[i]? = some (.ot kvs) ∧ ma.f r fun ds => ∃ (k : List Key) (d : D), ds = k.map keyD ∧ ds.length ≤ sizeLine ∧ getKV kvs k = some d ∧ R d := rfl
@[simp] theorem f_eOwnIx {i : Nat} {me : WE} : (eOwnIx i me).f r R = ∃ ds, r.sl[i]? = some (.ol ds) ∧ me.f r fun z => ∃ n d, z = .int n ∧ atI ds n = some d ∧ R d := rfl
@[simp] theorem f_sNext : sNext.f W r = W.nx r := rfl
@[simp] theorem f_sSeq {a b} : (sSeq a b).f W r = a.f { W with nx := b.f W } r := rfl
@[simp] theorem f_sRet {m} : (sRet m).f W r = m.f r W.rt := rfl
@[simp] theorem f_sRetN : sRetN.f W r = W.rt .non := rfl
@[simp] theorem f_sIf {c a b} : (sIf c a b).f W r = c.f r fun k => if k = true then a.f W r else b.f W r := rfl
@[simp] theorem f_sDo {m} : (sDo m).f W r = m.f r fun _ => W.nx r := rfl
@[simp] theorem f_sSet {i m} : (sSet i m).f W r = m.f r fun d => W.nx (r.put i d) := rfl
@[simp] theorem f_sBrk : sBrk.f W r = W.bk r := rfl
@[simp] theorem f_sCnt : sCnt.f W r = W.ct r := rfl
@[simp] theorem f_sPar {i j a} : (sPar i j a).f W r = a.f r fun ds => ∃ d e, ds = [d, e] ∧ W.nx ((r.put i d).put j e) := rfl
@[simp] theorem f_sUnp {m mg} : (sUnp m mg).f W r = m.f r fun d => mg d r fun r' => W.nx r' := rfl
@[simp] theorem f_sFor {mi mg mb} : (sFor mi mg mb).f W r = mi.f r fun ds => forW mg mb W ds r := rfl
@[simp] theorem f_sOwn {i m} : (sOwn i m).f W r = m.f r fun x => i < r.sl.length ∧ W.nx (r.at i x) := rfl
@[simp] theorem f_sParO {i j m me} : (sParO i j m me).f W r = m.f r fun x => me.f r fun d => i < r.sl.length ∧ W.nx ((r.at i x).put j d) := rfl
@[simp] theorem f_sApp {i m} : (sApp i m).f W r = ∃ ds, r.sl[i]? = some (.ol ds) ∧ m.f r fun d => ds.length < sizeLine ∧ W.nx (r.at i (.ol (ds ++ [d]))) := rfl
@[simp] theorem f_sPut {i me m} : (sPut i me m).f W r = m.f r fun d => ∃ ds, r.sl[i]? = some (.ol ds) ∧ me.f r fun z => ∃ n j, z = .int n ∧ ixN ds.length n = some j ∧ W.nx (r.at i (.ol (ds.set j d))) := rfl
@[simp] theorem f_sGive {i m} : (sGive i m).f W r = ∃ ds, r.sl[i]? = some (.ol ds) ∧ m.f W (r.at i (.sh (.lst ds))) := rfl
@[simp] theorem f_sPutT {i ma m} : (sPutT i ma m).f W r = m.f r fun d => ∃ kvs, r.sl[i]? = some (.ot kvs) ∧ ma.f r fun ds => ∃ k : List Key, ds = k.map keyD ∧ ds.length ≤ sizeLine ∧ kvs.length < sizeLine ∧ W.nx (r.at i (.ot (putKV kvs k d))) := rfl
@[simp] theorem f_fnF {N m ds} : (fnF N m).f ds R = m.f { nx := fun _ => R .non, rt := R } ⟨startE N ds, fun _ => False⟩ := rfl
@[simp] theorem put_sl {i : Nat} {d : D} : (r.put i d).sl = r.sl.set i (.sh d) := rfl
@[simp] theorem at_sl {i : Nat} {x : Sl} : (r.at i x).sl = r.sl.set i x := rfl
@[simp] theorem wipe_sl {vs : List Nat} : (wipeE r vs).sl = wipeL r.sl vs := rfl
end

/-! ### loops -/
section
variable {mg : WG} {mb : WS} {mc : WT} {me : WE} {W : WEnds} {r : Env} {k : List D → Prop}
theorem forW_ind {I : List D → Env → Prop} (h0 : ∀ r, I [] r → W.nx r) (hs : ∀ d ds r (nx : Env → Prop), I (d :: ds) r → (∀ r', I ds r' → nx r') → mg d r fun r1 => mb.f { nx := nx, ct := nx, bk := W.nx, rt := W.rt } r1) : ∀ ds r, I ds r → forW mg mb W ds r
  | [], r, h => h0 r h
  | d :: ds, r, h => hs d ds r _ h fun r' h' => forW_ind h0 hs ds r' h'
theorem lcW_ind {I : List D → List D → Prop} (h0 : ∀ out, I [] out → k out) (hs : ∀ d ds out (K : List D → Prop), I (d :: ds) out → (∀ out', I ds out' → K out') → mg d r fun r1 => mc.f r1 fun b => if b = true then me.f r1 fun z => K (out ++ [z]) else K out) : ∀ ds out, I ds out → lcW mg mc me r k ds out
  | [], out, h => h0 out h
  | d :: ds, out, h => hs d ds out _ h fun out' h' => lcW_ind h0 hs ds out' h'
/-- each item is made one value, or left out -/
theorem lcW_of (p : D → Bool) (f : D → D) {ds out : List D} (h : ∀ d ∈ ds, ∀ (Kt : D → Prop) (Kf : Prop), (p d = true → Kt (f d)) → (p d = false → Kf) → mg d r fun r1 => mc.f r1 fun b => if b = true then me.f r1 Kt else Kf) (hk : k (out ++ (ds.filter p).map f)) : lcW mg mc me r k ds out := by
  induction ds generalizing out with
  | nil =>
    rw [List.filter_nil, List.map_nil, List.append_nil] at hk
    exact hk
  | cons d ds ih =>
    refine h d List.mem_cons_self _ _ (fun hp => ?_) fun hp => ?_
    · refine ih (fun e he => h e (List.mem_cons_of_mem _ he)) ?_
      rw [List.filter_cons_of_pos hp, List.map_cons] at hk
      rw [List.append_assoc]
      exact hk
    · refine ih (fun e he => h e (List.mem_cons_of_mem _ he)) ?_
      rw [List.filter_cons_of_neg (by rw [hp]; decide)] at hk
      exact hk
/-- each item is made one value -/
theorem lcW_map (f : D → D) {ds out : List D} (h : ∀ d ∈ ds, ∀ (Kt : D → Prop), Kt (f d) → mg d r fun r1 => me.f r1 Kt) (hk : k (out ++ ds.map f)) : lcW mg cYes me r k ds out := by
  induction ds generalizing out with
  | nil =>
    rw [List.map_nil, List.append_nil] at hk
    exact hk
  | cons d ds ih =>
    show mg d r fun r1 => if true = true then me.f r1 fun z => lcW mg cYes me r k ds (out ++ [z]) else lcW mg cYes me r k ds out
    refine h d List.mem_cons_self _ (ih (fun e he => h e (List.mem_cons_of_mem _ he)) ?_)
    rw [List.map_cons] at hk
    rw [List.append_assoc]
    exact hk
end

/-! ### plain things: no object, no class -/
mutual
def Pl (n : Nat) : D → Bool
  | .non => true
  | .bl _ => true
  | .int _ => true
  | .str _ => true
  | .tup ds => decide (ds.length ≤ n) && PlL n ds
  | .lst ds => decide (ds.length ≤ n) && PlL n ds
  | .dic ks vs => ks.isEmpty && vs.isEmpty
  | .ref _ => false
  | .ty _ => false
  | .st => false
def PlL (n : Nat) : List D → Bool
  | [] => true
  | d :: ds => Pl n d && PlL n ds
end
theorem PlL_mem {n : Nat} : ∀ {ds : List D} {d : D}, PlL n ds = true → d ∈ ds → Pl n d = true
  | e :: ds, d, h, hm => by
    simp only [PlL, Bool.and_eq_true] at h
    rcases List.mem_cons.mp hm with z | z
    · rw [z]; exact h.1
    · exact PlL_mem h.2 z
theorem PlL_of {n : Nat} : ∀ {ds : List D}, (∀ d ∈ ds, Pl n d = true) → PlL n ds = true
  | [], _ => rfl
  | d :: ds, h => by
    simp only [PlL, Bool.and_eq_true]
    exact ⟨h d List.mem_cons_self, PlL_of fun e he => h e (List.mem_cons_of_mem _ he)⟩
theorem Pl_tup {n : Nat} {ds : List D} : Pl n (.tup ds) = true ↔ ds.length ≤ n ∧ ∀ d ∈ ds, Pl n d = true := by
  simp only [Pl, Bool.and_eq_true, decide_eq_true_eq]
  exact ⟨fun h => ⟨h.1, fun d hd => PlL_mem h.2 hd⟩, fun h => ⟨h.1, PlL_of h.2⟩⟩
theorem Pl_lst {n : Nat} {ds : List D} : Pl n (.lst ds) = true ↔ ds.length ≤ n ∧ ∀ d ∈ ds, Pl n d = true := by
  simp only [Pl, Bool.and_eq_true, decide_eq_true_eq]
  exact ⟨fun h => ⟨h.1, fun d hd => PlL_mem h.2 hd⟩, fun h => ⟨h.1, PlL_of h.2⟩⟩
mutual
theorem Pl_mono {n m : Nat} (hn : n ≤ m) : ∀ {d : D}, Pl n d = true → Pl m d = true
  | .non, _ => rfl
  | .bl _, _ => rfl
  | .int _, _ => rfl
  | .str _, _ => rfl
  | .tup ds, h => by
    simp only [Pl, Bool.and_eq_true, decide_eq_true_eq] at h ⊢
    exact ⟨Nat.le_trans h.1 hn, PlL_mono hn h.2⟩
  | .lst ds, h => by
    simp only [Pl, Bool.and_eq_true, decide_eq_true_eq] at h ⊢
    exact ⟨Nat.le_trans h.1 hn, PlL_mono hn h.2⟩
  | .dic _ _, h => by simpa only [Pl] using h
  | .ref _, h => by simp only [Pl] at h; cases h
  | .ty _, h => by simp only [Pl] at h; cases h
  | .st, h => by simp only [Pl] at h; cases h
theorem PlL_mono {n m : Nat} (hn : n ≤ m) : ∀ {ds : List D}, PlL n ds = true → PlL m ds = true
  | [], _ => rfl
  | d :: ds, h => by
    simp only [PlL, Bool.and_eq_true] at h ⊢
    exact ⟨Pl_mono hn h.1, PlL_mono hn h.2⟩
end
/-- isinstance of plain things -/
def isInt : D → Bool
  | .int _ => true
  | .bl _ => true
  | _ => false
def isBl : D → Bool
  | .bl _ => true
  | _ => false
def isTup : D → Bool
  | .tup _ => true
  | _ => false
def isLst : D → Bool
  | .lst _ => true
  | _ => false
def isStr : D → Bool
  | .str _ => true
  | _ => false
theorem isi_int {n : Nat} {d : D} (h : Pl n d = true) : isi [d, .ty "int"] = some (.bl (isInt d)) := by
  cases d <;> first | rfl | (simp only [Pl] at h; cases h) | decide +kernel
theorem isi_bool {n : Nat} {d : D} (h : Pl n d = true) : isi [d, .ty "bool"] = some (.bl (isBl d)) := by
  cases d <;> first | rfl | (simp only [Pl] at h; cases h)
theorem isi_tuple {n : Nat} {d : D} (h : Pl n d = true) : isi [d, .ty "tuple"] = some (.bl (isTup d)) := by
  cases d <;> first | rfl | (simp only [Pl] at h; cases h)
theorem isi_list {n : Nat} {d : D} (h : Pl n d = true) : isi [d, .ty "list"] = some (.bl (isLst d)) := by
  cases d <;> first | rfl | (simp only [Pl] at h; cases h)
theorem isi_str {n : Nat} {d : D} (h : Pl n d = true) : isi [d, .ty "str"] = some (.bl (isStr d)) := by
  cases d <;> first | rfl | (simp only [Pl] at h; cases h)
/-- a whole number, no bool -/
def isWh : D → Bool
  | .int _ => true
  | _ => false
theorem beq_dec (i j : Int) : (i == j) = decide (i = j) := Bool.eq_iff_iff.mpr (by simp)
theorem eqD_int (i j : Int) : eqD (.int i) (.int j) = some (.bl (decide (i = j))) := by
  simp [eqD, eqB, emp, okq, toP, PyData.eqv, PyData.depth, beq_dec]
theorem neD_int (i j : Int) : neD (.int i) (.int j) = some (.bl (!decide (i = j))) := by
  simp [neD, eqB, emp, okq, toP, PyData.eqv, PyData.depth, beq_dec]
theorem ix0 {α : Type} {x : α} {xs : List α} : atI (x :: xs) 0 = some x := atI_nat (j := 0) rfl
theorem ix1 {α : Type} {x y : α} {xs : List α} : atI (x :: y :: xs) 1 = some y := atI_nat (j := 1) rfl
theorem ix2 {α : Type} {x y z : α} {xs : List α} : atI (x :: y :: z :: xs) 2 = some z := atI_nat (j := 2) rfl
theorem ix3 {α : Type} {x y z w : α} {xs : List α} : atI (x :: y :: z :: w :: xs) 3 = some w := atI_nat (j := 3) rfl
@[simp] theorem ixD_tup {ds : List D} {i : Int} : ixD (.tup ds) (.int i) = atI ds i := rfl
@[simp] theorem ixD_lst {ds : List D} {i : Int} : ixD (.lst ds) (.int i) = atI ds i := rfl
@[simp] theorem lenD_tup {ds : List D} : lenD [.tup ds] = some (.int ds.length) := rfl
@[simp] theorem lenD_lst {ds : List D} : lenD [.lst ds] = some (.int ds.length) := rfl
@[simp] theorem items_tup {ds : List D} : items (.tup ds) = some ds := rfl
@[simp] theorem items_lst {ds : List D} : items (.lst ds) = some ds := rfl
@[simp] theorem leD_int {i j : Int} : leD (.int i) (.int j) = some (.bl (decide (i ≤ j))) := rfl
@[simp] theorem ltD_int {i j : Int} : ltD (.int i) (.int j) = some (.bl (decide (i < j))) := rfl
@[simp] theorem gtD_int {i j : Int} : gtD (.int i) (.int j) = some (.bl (decide (j < i))) := rfl
@[simp] theorem geD_int {i j : Int} : geD (.int i) (.int j) = some (.bl (decide (j ≤ i))) := rfl
@[simp] theorem subD_int {i j : Int} : subD (.int i) (.int j) = some (.int (i - j)) := rfl
@[simp] theorem addD_int {i j : Int} : addD (.int i) (.int j) = some (.int (i + j)) := rfl
theorem allD_map {bs : List Bool} : allD [.lst (bs.map .bl)] = some (.bl (bs.all id)) := by
  show (bls (bs.map .bl)).map _ = _
  rw [bls_map]; rfl
theorem allD_of {α : Type} {xs : List α} {p : α → Bool} : allD [.lst (xs.map fun x => .bl (p x))] = some (.bl (xs.all p)) := by
  have := allD_map (bs := xs.map p)
  rw [List.map_map] at this
  rw [show (xs.map fun x => D.bl (p x)) = xs.map (D.bl ∘ p) from rfl, this, List.all_map]
  rfl
theorem cut_to {α : Type} (xs : List α) (a : Nat) : cutL xs none (some (a : Int)) = xs.take a := by
  unfold cutL
  rw [HT.sIx_nat, HT.sIx_none, List.drop_zero, Nat.sub_zero]
  by_cases h : a ≤ xs.length
  · rw [Nat.min_eq_left h]
  · rw [Nat.min_eq_right (by omega), List.take_of_length_le (Nat.le_refl _), List.take_of_length_le (by omega)]
theorem cut_from {α : Type} (xs : List α) (a : Nat) : cutL xs (some (a : Int)) none = xs.drop a := by
  unfold cutL
  rw [HT.sIx_nat, HT.sIx_none]
  by_cases h : a ≤ xs.length
  · rw [Nat.min_eq_left h, List.take_of_length_le (by rw [List.length_drop]; exact Nat.le_refl _)]
  · rw [Nat.min_eq_right (by omega), List.drop_eq_nil_of_le (Nat.le_refl _), List.drop_eq_nil_of_le (by omega)]; simp
theorem cut_mid {α : Type} (xs : List α) (a b : Nat) (h : a ≤ b) (hb : b ≤ xs.length) : cutL xs (some (a : Int)) (some (b : Int)) = (xs.drop a).take (b - a) := by
  unfold cutL
  rw [HT.sIx_nat, HT.sIx_nat, Nat.min_eq_left hb, Nat.min_eq_left (by omega)]
theorem addD_tup {a b : List D} (h : a.length + b.length ≤ sizeLine) : addD (.tup a) (.tup b) = some (.tup (a ++ b)) := by
  show Option.or none (Option.or none ((if a.length + b.length ≤ sizeLine then some (D.tup (a ++ b)) else none).or (addL (.tup a) (.tup b)))) = _
  rw [if_pos h]; rfl
theorem addD_lst {a b : List D} (h : a.length + b.length ≤ sizeLine) : addD (.lst a) (.lst b) = some (.lst (a ++ b)) := by
  show Option.or none (Option.or none (Option.or none (if a.length + b.length ≤ sizeLine then some (D.lst (a ++ b)) else none))) = _
  rw [if_pos h]; rfl
theorem addD_str {a b : Str} (h : a.length + b.length ≤ sizeLine) : addD (.str a) (.str b) = some (.str (a ++ b)) := by
  show Option.or none ((if a.length + b.length ≤ sizeLine then some (D.str (a ++ b)) else none).or _) = _
  rw [if_pos h]; rfl
theorem lcW2_map {mg mg1 : WG} {mi1 : WI} {me : WE} {vs1 : List Nat} {r : Env} {k : List D → Prop} (g : D → List D) (f : D → D) {ds out : List D}
    (h : ∀ d ∈ ds, ∀ (Kt : List D → Prop) (out : List D), Kt (out ++ (g d).map f) → mg d r fun r1 => mi1.f r1 fun ds1 => ds1.length ≤ 4096 ∧ lcW mg1 cYes me (wipeE r1 vs1) Kt ds1 out) (hk : k (out ++ ds.flatMap fun d => (g d).map f)) : lcW2 mg cYes mi1 mg1 cYes me vs1 r k ds out := by
  induction ds generalizing out with
  | nil =>
    rw [List.flatMap_nil, List.append_nil] at hk
    exact hk
  | cons d ds ih =>
    show mg d r fun r1 => if true = true then mi1.f r1 fun ds1 => ds1.length ≤ 4096 ∧ lcW mg1 cYes me (wipeE r1 vs1) (fun out' => lcW2 mg cYes mi1 mg1 cYes me vs1 r k ds out') ds1 out else lcW2 mg cYes mi1 mg1 cYes me vs1 r k ds out
    refine h d List.mem_cons_self _ _ (ih (fun e he => h e (List.mem_cons_of_mem _ he)) ?_)
    rw [List.flatMap_cons] at hk
    rw [List.append_assoc]
    exact hk
theorem allD_flat {α : Type} {xs : List α} {g : α → List D} {p : D → Bool} : allD [.lst (xs.flatMap fun x => (g x).map fun s => D.bl (p s))] = some (.bl (xs.all fun x => (g x).all p)) := by
  have e : (xs.flatMap fun x => (g x).map fun s => D.bl (p s)) = (xs.flatMap fun x => (g x).map p).map .bl := by
    rw [List.map_flatMap]
    congr
    funext x
    rw [List.map_map]; rfl
  rw [e, allD_map, List.all_flatMap]
  congr
  funext x
  rw [List.all_map]; rfl
/-- what a tuple or a list holds -/
def kids : D → List D
  | .tup ds => ds
  | .lst ds => ds
  | _ => []
theorem powD_of {i j : Int} (h : CPow i j) : powD (.int i) (.int j) = some (.int (i ^ j.toNat)) := by
  show (if CPow i j then some (D.int (i ^ j.toNat)) else none) = _
  rw [if_pos h]
theorem pow6 : powD (.int 10) (.int 6) = some (.int 1000000) := powD_of ⟨by decide, by decide, by decide⟩
theorem none_left {α β : Type} (xs : List α) (p : α → Bool) (f : α → β) : ((xs.filter p).map f).isEmpty = xs.all fun x => !p x := by
  induction xs with
  | nil => rfl
  | cons x xs ih =>
    rw [List.all_cons]
    by_cases h : p x = true
    · rw [List.filter_cons_of_pos h, h]; rfl
    · rw [List.filter_cons_of_neg h, ih]; simp [h]
theorem eqB_of {x y : D} (he : emp x y = none) (hx : okq x = true) (hy : okq y = true) (hd : (toP x).depth ≤ 64) : eqB x y = some (PyData.eqv (toP x) (toP y)) := by
  unfold eqB
  rw [he, Option.none_or, if_pos ⟨hx, hy, Nat.le_trans (Nat.min_le_left _ _) hd⟩]
theorem eqD_seqL {A B : List D} (hB : B ≠ []) (hx : okqs A = true) (hy : okqs B = true) (hd : PyData.depthAll (toPs A) ≤ 63) : eqD (.lst A) (.lst B) = some (.bl (PyData.eqvAll (toPs A) (toPs B))) := by
  have he : emp (.lst A) (.lst B) = none := by
    cases B with
    | nil => exact absurd rfl hB
    | cons b B => rfl
  unfold eqD
  rw [eqB_of he (by simp only [okq]; exact hx) (by simp only [okq]; exact hy) (by simp only [toP, PyData.depth]; omega)]
  simp only [toP, PyData.eqv]
  rfl
/-- for .. in range(n) -/
theorem forR {mg : WG} {mb : WS} {W : WEnds} {n : Nat} {I : Nat → Env → Prop} (h0 : ∀ r, I n r → W.nx r) (hs : ∀ i r (nx : Env → Prop), i < n → I i r → (∀ r', I (i + 1) r' → nx r') → mg (.int (i : Nat)) r fun r1 => mb.f { nx := nx, ct := nx, bk := W.nx, rt := W.rt } r1) {r : Env} (h : I 0 r) : forW mg mb W (upto n) r := by
  refine forW_ind (I := fun rest r => ∃ i, i ≤ n ∧ rest = (upto n).drop i ∧ I i r) ?_ ?_ (upto n) r ⟨0, Nat.zero_le _, rfl, h⟩
  · rintro r ⟨i, hi, e, hI⟩
    have := congrArg List.length e
    rw [List.length_drop, upto_len, List.length_nil] at this
    have : i = n := by omega
    subst this
    exact h0 r hI
  · rintro d ds r nx ⟨i, hi, e, hI⟩ hnx
    have hlt : i < n := by
      have := congrArg List.length e
      rw [List.length_drop, upto_len, List.length_cons] at this
      omega
    have e1 : (upto n)[i]? = some d := by
      have := congrArg (fun l => l[0]?) e
      simpa [List.getElem?_drop] using this.symm
    obtain ⟨rfl, _⟩ := upto_get e1
    refine hs i r nx hlt hI fun r' h' => hnx r' ⟨i + 1, hlt, ?_, h'⟩
    have := congrArg (List.drop 1) e
    simpa [List.drop_drop, Nat.add_comm] using this
theorem upto_mem {n : Nat} {d : D} (h : d ∈ upto n) : ∃ i : Nat, d = .int i ∧ i < n := by
  obtain ⟨i, hi, e⟩ := List.mem_iff_getElem.mp h
  obtain ⟨e1, e2⟩ := upto_get (n := n) (i := i) (d := d) (by rw [List.getElem?_eq_getElem hi, e])
  exact ⟨i, e1, e2⟩
section
variable {κ α : Type} [DecidableEq κ]
theorem getKV_put (kvs : List (κ × α)) (k : κ) (v : α) : getKV (putKV kvs k v) k = some v := by
  unfold putKV
  split
  · rename_i h
    induction kvs with
    | nil => cases h
    | cons p kvs ih =>
      by_cases hk : p.1 = k
      · rw [List.map_cons, if_pos hk]
        unfold getKV
        rw [List.find?_cons_of_pos (by simpa using hk)]; rfl
      · rw [List.map_cons, if_neg hk]
        unfold getKV at ih ⊢
        rw [List.find?_cons_of_neg (by simpa using hk)]
        refine ih ?_
        rw [List.any_cons] at h
        simpa [hk] using h
  · rename_i h
    unfold getKV
    rw [List.find?_append]
    have : kvs.find? (fun kv => decide (kv.1 = k)) = none := by
      rw [List.find?_eq_none]
      intro x hx
      simp only [List.any_eq_true, not_exists, not_and] at h
      exact h x hx
    rw [this]
    simp
theorem getKV_put_ne (kvs : List (κ × α)) {k k' : κ} (v : α) (hne : k' ≠ k) : getKV (putKV kvs k v) k' = getKV kvs k' := by
  unfold putKV
  split
  · induction kvs with
    | nil => rfl
    | cons p kvs ih =>
      rename_i hh
      have ih' : getKV (kvs.map fun kv => if kv.1 = k then (kv.1, v) else kv) k' = getKV kvs k' := by
        clear ih hh
        induction kvs with
        | nil => rfl
        | cons q kvs ih =>
          rw [List.map_cons]
          unfold getKV at ih ⊢
          by_cases hq : q.1 = k
          · rw [if_pos hq, List.find?_cons_of_neg (by simpa [hq] using Ne.symm hne), List.find?_cons_of_neg (by simpa [hq] using Ne.symm hne)]
            exact ih
          · rw [if_neg hq]
            by_cases hq2 : q.1 = k'
            · rw [List.find?_cons_of_pos (by simpa using hq2), List.find?_cons_of_pos (by simpa using hq2)]
            · rw [List.find?_cons_of_neg (by simpa using hq2), List.find?_cons_of_neg (by simpa using hq2)]
              exact ih
      rw [List.map_cons]
      unfold getKV at ih' ⊢
      by_cases hq : p.1 = k
      · rw [if_pos hq, List.find?_cons_of_neg (by simpa [hq] using Ne.symm hne), List.find?_cons_of_neg (by simpa [hq] using Ne.symm hne)]
        exact ih'
      · rw [if_neg hq]
        by_cases hq2 : p.1 = k'
        · rw [List.find?_cons_of_pos (by simpa using hq2), List.find?_cons_of_pos (by simpa using hq2)]
        · rw [List.find?_cons_of_neg (by simpa using hq2), List.find?_cons_of_neg (by simpa using hq2)]
          exact ih'
  · unfold getKV
    rw [List.find?_append]
    cases e : kvs.find? (fun kv => decide (kv.1 = k')) with
    | some x => rfl
    | none =>
      rw [List.find?_cons_of_neg (by simpa using Ne.symm hne)]
      rfl
theorem putKV_len (kvs : List (κ × α)) (k : κ) (v : α) : (putKV kvs k v).length ≤ kvs.length + 1 := by
  unfold putKV
  split
  · rw [List.length_map]; omega
  · rw [List.length_append, List.length_singleton]; exact Nat.le_refl _
end
end DS
namespace DS
open PySem PySem.Spec PyProof.Rows L2
def topS (i : Nat) : Stmt := PySem.Challenge.pw_whyandwhynot_k79_reports_and_what_they_s.main.body.getD i (.Pass ⟨0, 0, 0, 0⟩)
abbrev st_is_whole : Stmt := topS 1
abbrev st_is_number : Stmt := topS 2
abbrev st_is_tuple_of : Stmt := topS 3
abbrev st_is_counts : Stmt := topS 7
abbrev st_is_report : Stmt := topS 8
abbrev st_is_lot_of_reports : Stmt := topS 9
abbrev st_shows_done : Stmt := topS 10
abbrev st_law_begun : Stmt := topS 12
abbrev st_law_blended : Stmt := topS 13
abbrev st_law_draw : Stmt := topS 14
abbrev st_law_pick : Stmt := topS 15
abbrev st_law_is_truth : Stmt := topS 16
abbrev st_law_is_whole : Stmt := topS 17
abbrev st_law_bent : Stmt := topS 18
abbrev st_law_odd : Stmt := topS 19
abbrev st_law_ho_shown : Stmt := topS 20
abbrev st_law_k79_small : Stmt := topS 21
abbrev st_law_k79_is : Stmt := topS 22
abbrev st_law_k79_shown : Stmt := topS 23
abbrev st_law_k79_asked : Stmt := topS 24
abbrev st_law_k79_reports : Stmt := topS 25
abbrev st_law : Stmt := topS 26
structure Tx (K : PySem.W.Frag) (mg : Str → Option Value) : Prop where
  b_isinstance : mg "isinstance" = none
  b_int : mg "int" = none
  b_bool : mg "bool" = none
  b_tuple : mg "tuple" = none
  b_len : mg "len" = none
  b_all : mg "all" = none
  b_range : mg "range" = none
  b_list : mg "list" = none
  b_enumerate : mg "enumerate" = none
  b_abs : mg "abs" = none
  c_MOST_COUNT : Glob K mg "MOST_COUNT" (.int 1000000)
  c_MOST_HOUSES : Glob K mg "MOST_HOUSES" (.int 5)
  f_is_whole : Have K mg "is_whole" st_is_whole
  f_is_number : Have K mg "is_number" st_is_number
  f_is_tuple_of : Have K mg "is_tuple_of" st_is_tuple_of
  f_is_counts : Have K mg "is_counts" st_is_counts
  f_is_report : Have K mg "is_report" st_is_report
  f_is_lot_of_reports : Have K mg "is_lot_of_reports" st_is_lot_of_reports
  f_shows_done : Have K mg "shows_done" st_shows_done
  f_law_begun : Have K mg "_law_begun" st_law_begun
  f_law_blended : Have K mg "_law_blended" st_law_blended
  f_law_draw : Have K mg "_law_draw" st_law_draw
  f_law_pick : Have K mg "_law_pick" st_law_pick
  f_law_is_truth : Have K mg "_law_is_truth" st_law_is_truth
  f_law_is_whole : Have K mg "_law_is_whole" st_law_is_whole
  f_law_bent : Have K mg "_law_bent" st_law_bent
  f_law_odd : Have K mg "_law_odd" st_law_odd
  f_law_ho_shown : Have K mg "_law_ho_shown" st_law_ho_shown
  f_law_k79_small : Have K mg "_law_k79_small" st_law_k79_small
  f_law_k79_is : Have K mg "_law_k79_is" st_law_k79_is
  f_law_k79_shown : Have K mg "_law_k79_shown" st_law_k79_shown
  f_law_k79_asked : Have K mg "_law_k79_asked" st_law_k79_asked
  f_law_k79_reports : Have K mg "_law_k79_reports" st_law_k79_reports
section
variable {P : Program} {w : World} {K : PySem.W.Frag} {mg : Str → Option Value} {base : Heap}
/-! ### the source of draws -/
theorem sc_law_begun : FnScope ["script", "great", "cell"] ["script"] (defScope st_law_begun) := ⟨rfl, rfl, rfl, by decide +kernel, rfl, by decide +kernel, by decide +kernel⟩
theorem W_law_begun (T : Tx K mg) : FnH P w K mg base 1 "_law_begun" (spBegun K) := by
  refine fnH_hand (N := ["script", "great", "cell"]) (k := 0) (n := 0) (t := tBegun) T.f_law_begun sc_law_begun (fun _ _ _ _ _ _ us hl => match us, hl with | [_], _ => rfl) (fun vs H Q E h => by obtain ⟨a, ns, e, _⟩ := h; rw [e]; rfl) (fun y ok => ?_) (fun h => begun_run h)
  exact pss_cons (ps_setLc (X := (gOf P w K mg base 0 ["script", "great", "cell"] st_law_begun false).cx y) (i := 1) (own := [("cell", 2)]) rfl ok.nd rfl (by show y.env.scope.names.lookup _ = _; rw [ok.sc]; rfl) (sw_true (by show y.env.scope.kind = _; rw [ok.sc]; rfl) (by show y.env.scope.names.lookup _ = _; rw [ok.sc]; rfl) rfl (by decide +kernel))
      (pi_list (raw_var ok 0)) (blkOk_by (by show blkC _ y.env.scope _ _ = true; rw [ok.sc]; show blkC ["script", "great", "cell"] (defScope st_law_begun) _ _ = true; decide +kernel)) (fun s H C cl fp => raw_name (blk_ok ok s H C cl fp) 2)
      (fun s H C cl fp => pts_one (pt_cmpR op_ge (raw_abs (blk_ok ok s H C cl fp) 2 T.b_abs) (pe_op op_pow pe_int pe_int) (nomark _)))
      (fun s H C cl fp => pe_op op_sub (raw_abs (blk_ok ok s H C cl fp) 2 T.b_abs) (pe_op op_pow pe_int pe_int)) (fun _ => rfl))
    (pss_one (ps_ret (pe_disp (pps_cons pe_str (raw_var ok 1) (pps_cons pe_str (pe_lc (X := (gOf P w K mg base 0 ["script", "great", "cell"] st_law_begun false).cx y) (own := [("cell", 2)]) rfl ok.nd (pi_list (raw_var ok 0)) (blkOk_by (by show blkC _ y.env.scope _ _ = true; rw [ok.sc]; show blkC ["script", "great", "cell"] (defScope st_law_begun) _ _ = true; decide +kernel)) (fun s H C cl fp => raw_name (blk_ok ok s H C cl fp) 2) (fun s H C cl fp => pts_nil)
      (fun s H C cl fp => raw_abs (blk_ok ok s H C cl fp) 2 T.b_abs) (fun _ => rfl)) (pps_cons pe_str pe_int (pps_cons pe_str pe_int pps_nil)))) rfl rfl (by simp) (by decide))))
theorem sc_law_blended : FnScope ["state", "turn", "found", "prime", "blend", "cell"] ["state"] (defScope st_law_blended) := ⟨rfl, rfl, rfl, by decide +kernel, rfl, by decide +kernel, by decide +kernel⟩
theorem W_law_blended (T : Tx K mg) : FnH P w K mg base 1 "_law_blended" (spBl K) := by
  refine fnH_hand (N := ["state", "turn", "found", "prime", "blend", "cell"]) (k := 0) (n := 0) (t := tBl) T.f_law_blended sc_law_blended (fun _ _ _ _ _ _ us hl => match us, hl with | [_], _ => rfl) (fun vs H Q E h => by obtain ⟨c, _, _, _, _, e, _⟩ := h; rw [e]; rfl) (fun y ok => ?_) (fun h => bl_run h)
  exact pss_cons (raw_par ok 1 2 (pa_cons (pe_op op_add (pe_dget (hu_of ok.room) (raw_var ok 0) pe_str (fun _ _ => rfl)) pe_int) (pa_cons pe_int pa_nil)))
    (pss_cons (ps_dput (hu_of ok.room) (raw_var ok 0) pe_str (raw_var ok 1) rfl)
    (pss_cons (ps_for ok.po rfl (pi_list (pe_lst (pa_cons pe_int (pa_cons pe_int (pa_cons pe_int pa_nil))))) (raw_name ok 3)
      (pss_cons (raw_set ok 4 (pe_op op_add (pe_op op_mul pe_int (raw_var ok 1)) (pe_op op_fdiv (raw_var ok 3) pe_int)) (by rfl))
      (pss_cons (ps_for ok.po rfl (pi_list (pe_dget (hu_of ok.room) (raw_var ok 0) pe_str (fun _ _ => rfl))) (raw_name ok 5)
          (pss_one (raw_set ok 4 (pe_op op_mod (raw_int ok T.b_int (pe_op op_add (pe_op op_add (pe_op op_mul (raw_var ok 4) pe_int) (raw_var ok 5)) (raw_var ok 1)) (by rfl)) (raw_var ok 3)) (by rfl))) (fun _ => rfl))
        (pss_one (raw_set ok 2 (pe_op op_add (pe_op op_mul (raw_var ok 2) pe_int) (pe_op op_mod (raw_int ok T.b_int (pe_op op_pow5 (raw_var ok 4) pe_int) (by rfl)) (raw_var ok 3))) (by rfl))))) (fun _ => rfl))
      (pss_one (ps_ret (raw_var ok 2)))))
theorem sc_law_draw : FnScope ["state", "size_here", "found"] ["state", "size_here"] (defScope st_law_draw) := ⟨rfl, rfl, rfl, by decide +kernel, rfl, by decide +kernel, by decide +kernel⟩
abbrev S_law_draw : WFn := drawF
theorem W_law_draw (T : Tx K mg) : FnW P w K mg base 2 "_law_draw" 2 S_law_draw := by
  refine fnW_hand (N := ["state", "size_here", "found"]) (k := 1) (t := tDraw) T.f_law_draw sc_law_draw (fun _ _ _ _ _ _ us hl => match us, hl with | [_, _], _ => rfl) rfl (fun y ok => ?_) (fun h => draw_run h)
  obtain ⟨fB, fdB, psB, FB, hmB, hkB, hbB⟩ := (W_law_blended (P := P) (w := w) (base := base) T).ex
  have lf : ∀ {p1 p2 p3 : Pos} {j}, PE ((gOf P w K mg base 1 ["state", "size_here", "found"] st_law_draw false).cx y) (.Subscript (.Name "state" p1) (.Constant (.str "left") j p2) p3) tLeft := fun {p1 p2 p3 j} => pe_dget (hu_of ok.room) (raw_var ok 0) pe_str (fun _ _ => rfl)
  exact pss_cons (ps_if (pt_cmpR op_eqI lf pe_int (nomark _))
      (pss_one (ps_dput (hu_of ok.room) (raw_var ok 0) pe_str
        (pe_ifExp (pt_cmpR (op_neA ok.room.units) (pe_dget (hu_of ok.room) (raw_var ok 0) pe_str (fun _ _ => rfl)) (pe_lst pa_nil) (nomark _))
          (pe_bm PySem.F.plainAttrs_list PySem.F.slot_list_pop PySem.F.type_list_pop mt_popAt (pe_dget (hu_of ok.room) (raw_var ok 0) pe_str (fun _ _ => rfl)) (pa_cons pe_int pa_nil))
          (pe_call FB ok.room (ok.gl rfl) hmB hkB hbB .nil L2.pass0 (pa_cons (raw_var ok 0) pa_nil))) rfl)) pss_nil)
    (pss_cons (raw_set ok 2 (pe_op op_mod (raw_int ok T.b_int lf (by rfl)) (raw_var ok 1)) (by rfl))
    (pss_cons (ps_dput (hu_of ok.room) (raw_var ok 0) pe_str (pe_op op_fdiv lf (raw_var ok 1)) rfl)
      (pss_one (ps_ret (raw_var ok 2)))))
/-! ### is_whole -/
abbrev N_is_whole : List Str := ["value"]
theorem sc_is_whole : FnScope N_is_whole ["value"] (defScope st_is_whole) := ⟨rfl, rfl, rfl, by decide +kernel, rfl, by decide +kernel, by decide +kernel⟩
def m_is_whole : WS := (sRet (eAnd (eCB isi (aCons (eVar 0) (aCons (eC (.ty "int")) aNil))) (eNot (eCB isi (aCons (eVar 0) (aCons (eC (.ty "bool")) aNil))))))
theorem d_is_whole (T : Tx K mg) : DSs (gOf P w K mg base 0 N_is_whole st_is_whole false) (defBody st_is_whole) m_is_whole := (ds_one (ds_ret (de_and (de_cb (fun y ok => call_isi) s_isi T.b_isinstance (da_cons (de_var 0) (da_cons (de_bty T.b_int) da_nil))) (de_one (de_not (de_cb (fun y ok => call_isi) s_isi T.b_isinstance (da_cons (de_var 0) (da_cons (de_bty T.b_bool) da_nil))))))))
theorem w_is_whole (T : Tx K mg) : FnW P w K mg base 1 "is_whole" 1 (fnF N_is_whole m_is_whole) := fnW_of T.f_is_whole sc_is_whole (by decide) (fun _ _ _ _ _ _ us hl => match us, hl with | [_], _ => rfl) (d_is_whole T)
theorem u_is_whole {d0 : D} {R : D → Prop} : (fnF N_is_whole m_is_whole).f [d0] R = m_is_whole.f { nx := fun _ => R .non, rt := R } ⟨[.sh d0], fun _ => False⟩ := rfl
def S_is_whole : WFn := ⟨fun ds R => ∃ n d, ds = [d] ∧ Pl n d = true ∧ R (.bl (isWh d)), 0⟩
theorem I_is_whole : ∀ ds R, ds.length = 1 → S_is_whole.f ds R → (fnF N_is_whole m_is_whole).f ds R := by
  rintro _ R - ⟨n, d, rfl, hp, h⟩
  rw [u_is_whole]
  simp [m_is_whole, isi_int hp, isi_bool hp]
  cases d <;> simp_all [isInt, isBl, isWh]
theorem W_is_whole (T : Tx K mg) : FnW P w K mg base 1 "is_whole" 1 S_is_whole := (w_is_whole T).imp (by decide) I_is_whole
/-! ### is_number -/
abbrev N_is_number : List Str := ["value", "least", "most"]
theorem sc_is_number : FnScope N_is_number ["value", "least", "most"] (defScope st_is_number) := ⟨rfl, rfl, rfl, by decide +kernel, rfl, by decide +kernel, by decide +kernel⟩
def m_is_number : WS := (sRet (eAnd (eCall S_is_whole (aCons (eVar 0) aNil)) (eCh leD leD (eVar 1) (eVar 0) (eVar 2))))
theorem d_is_number (T : Tx K mg) : DSs (gOf P w K mg base 1 N_is_number st_is_number false) (defBody st_is_number) m_is_number := (ds_one (ds_ret (de_and (de_call (W_is_whole T) (da_cons (de_var 0) da_nil)) (de_one (de_ch (fun y ok => op_le) s_le (fun y ok => op_le) s_le (de_var 1) (de_var 0) (de_var 2))))))
theorem w_is_number (T : Tx K mg) : FnW P w K mg base 2 "is_number" 3 (fnF N_is_number m_is_number) := fnW_of T.f_is_number sc_is_number (by decide) (fun _ _ _ _ _ _ us hl => match us, hl with | [_, _, _], _ => rfl) (d_is_number T)
theorem u_is_number {d0 d1 d2 : D} {R : D → Prop} : (fnF N_is_number m_is_number).f [d0, d1, d2] R = m_is_number.f { nx := fun _ => R .non, rt := R } ⟨[.sh d0, .sh d1, .sh d2], fun _ => False⟩ := rfl
def num : D → Int → Int → Bool
  | .int i, a, b => decide (a ≤ i) && decide (i ≤ b)
  | _, _, _ => false
def S_is_number : WFn := ⟨fun ds R => ∃ n d a b, ds = [d, .int a, .int b] ∧ Pl n d = true ∧ R (.bl (num d a b)), 0⟩
theorem I_is_number : ∀ ds R, ds.length = 3 → S_is_number.f ds R → (fnF N_is_number m_is_number).f ds R := by
  rintro _ R - ⟨n, d, a, b, rfl, hp, h⟩
  rw [u_is_number]
  simp [m_is_number, S_is_whole]
  refine ⟨⟨n, hp⟩, ?_⟩
  cases d <;> simp_all [isWh, num, leD, i2]
  rename_i i
  by_cases h1 : a ≤ i
  · exact .inr ⟨h1, by simpa [h1] using h⟩
  · exact .inl ⟨by omega, by simpa [h1] using h⟩
theorem W_is_number (T : Tx K mg) : FnW P w K mg base 2 "is_number" 3 S_is_number := (w_is_number T).imp (by decide) I_is_number
/-! ### is_tuple_of -/
abbrev N_is_tuple_of : List Str := ["value", "size"]
theorem sc_is_tuple_of : FnScope N_is_tuple_of ["value", "size"] (defScope st_is_tuple_of) := ⟨rfl, rfl, rfl, by decide +kernel, rfl, by decide +kernel, by decide +kernel⟩
def m_is_tuple_of : WS := (sRet (eAnd (eCB isi (aCons (eVar 0) (aCons (eC (.ty "tuple")) aNil))) (eOp eqD (eCB lenD (aCons (eVar 0) aNil)) (eVar 1))))
theorem d_is_tuple_of (T : Tx K mg) : DSs (gOf P w K mg base 0 N_is_tuple_of st_is_tuple_of false) (defBody st_is_tuple_of) m_is_tuple_of := (ds_one (ds_ret (de_and (de_cb (fun y ok => call_isi) s_isi T.b_isinstance (da_cons (de_var 0) (da_cons (de_bty T.b_tuple) da_nil))) (de_one (de_cmp (fun y ok => op_eqA ok.room.units) s_eq (de_cb (fun y ok => call_len) s_len T.b_len (da_cons (de_var 0) da_nil)) (de_var 1))))))
theorem w_is_tuple_of (T : Tx K mg) : FnW P w K mg base 1 "is_tuple_of" 2 (fnF N_is_tuple_of m_is_tuple_of) := fnW_of T.f_is_tuple_of sc_is_tuple_of (by decide) (fun _ _ _ _ _ _ us hl => match us, hl with | [_, _], _ => rfl) (d_is_tuple_of T)
theorem u_is_tuple_of {d0 d1 : D} {R : D → Prop} : (fnF N_is_tuple_of m_is_tuple_of).f [d0, d1] R = m_is_tuple_of.f { nx := fun _ => R .non, rt := R } ⟨[.sh d0, .sh d1], fun _ => False⟩ := rfl
def isTupN (d : D) (k : Int) : Bool := match d with
  | .tup ds => decide ((ds.length : Int) = k)
  | _ => false
def S_is_tuple_of : WFn := ⟨fun ds R => ∃ n d k, ds = [d, .int k] ∧ Pl n d = true ∧ R (.bl (isTupN d k)), 0⟩
theorem I_is_tuple_of : ∀ ds R, ds.length = 2 → S_is_tuple_of.f ds R → (fnF N_is_tuple_of m_is_tuple_of).f ds R := by
  rintro _ R - ⟨n, d, k, rfl, hp, h⟩
  rw [u_is_tuple_of]
  simp [m_is_tuple_of, isi_tuple hp]
  cases d <;> simp_all [isTup, isTupN, lenD, eqD_int]
theorem W_is_tuple_of (T : Tx K mg) : FnW P w K mg base 1 "is_tuple_of" 2 S_is_tuple_of := (w_is_tuple_of T).imp (by decide) I_is_tuple_of
/-! ### is_counts -/
abbrev N_is_counts : List Str := ["value", "many", "one"]
theorem sc_is_counts : FnScope N_is_counts ["value", "many"] (defScope st_is_counts) := ⟨rfl, rfl, rfl, by decide +kernel, rfl, by decide +kernel, by decide +kernel⟩
def m_is_counts : WS := (sRet (eAnd (eCall S_is_tuple_of (aCons (eVar 0) (aCons (eVar 1) aNil))) (eCB allD (aCons (eLc (iSeq (eVar 0)) (gN 2) cYes (eCall S_is_number (aCons (eVar 2) (aCons (eC (.int 0)) (aCons (eC (.int 1000000)) aNil)))) [2]) aNil))))
theorem d_is_counts (T : Tx K mg) : DSs (gOf P w K mg base 2 N_is_counts st_is_counts false) (defBody st_is_counts) m_is_counts := (ds_one (ds_ret (de_and (de_call (W_is_tuple_of T) (da_cons (de_var 0) (da_cons (de_var 1) da_nil))) (de_one (de_cb (fun y ok => cr_all rfl) s_all T.b_all (da_cons (de_lc [("one", 2)] (di_seq (de_var 0)) (by first | exact blk_of (by decide +kernel) | exact blk_of2 (by decide +kernel)) (dg_name 2) dts_nil (de_call (W_is_number T) (da_cons (de_var 2) (da_cons de_int (da_cons (de_glob T.c_MOST_COUNT) da_nil))))) da_nil))))))
theorem w_is_counts (T : Tx K mg) : FnW P w K mg base 3 "is_counts" 2 (fnF N_is_counts m_is_counts) := fnW_of T.f_is_counts sc_is_counts (by decide) (fun _ _ _ _ _ _ us hl => match us, hl with | [_, _], _ => rfl) (d_is_counts T)
theorem u_is_counts {d0 d1 : D} {R : D → Prop} : (fnF N_is_counts m_is_counts).f [d0, d1] R = m_is_counts.f { nx := fun _ => R .non, rt := R } ⟨[.sh d0, .sh d1, .un], fun _ => False⟩ := rfl
def cnts (d : D) (k : Int) : Bool := match d with
  | .tup ds => decide ((ds.length : Int) = k) && ds.all fun x => num x 0 1000000
  | _ => false
def S_is_counts : WFn := ⟨fun ds R => ∃ n d k, ds = [d, .int k] ∧ Pl n d = true ∧ R (.bl (cnts d k)), 0⟩
theorem I_is_counts : ∀ ds R, ds.length = 2 → S_is_counts.f ds R → (fnF N_is_counts m_is_counts).f ds R := by
  rintro _ R - ⟨n, d, k, rfl, hp, h⟩
  refine ⟨d, rfl, _, rfl, n, d, k, rfl, hp, _, rfl, ?_⟩
  cases d with
  | tup ds =>
    by_cases hk : (ds.length : Int) = k
    · rw [if_pos (by simpa [isTupN] using hk)]
      refine ⟨_, rfl, ds, rfl, ?_⟩
      refine lcW_map (fun x => .bl (num x 0 1000000)) (fun d hd Kt hK => ⟨d, rfl, n, d, 0, 1000000, rfl, (Pl_tup.mp hp).2 d hd, hK⟩) ?_
      refine ⟨_, allD_of, ?_⟩
      simpa [cnts, hk] using h
    · rw [if_neg (by simpa [isTupN] using hk)]
      simpa [cnts, hk] using h
  | _ => simpa [cnts, isTupN] using h
theorem W_is_counts (T : Tx K mg) : FnW P w K mg base 3 "is_counts" 2 S_is_counts := (w_is_counts T).imp (by decide) I_is_counts
/-! ### is_report -/
abbrev N_is_report : List Str := ["value", "many", "house", "row", "side"]
theorem sc_is_report : FnScope N_is_report ["value"] (defScope st_is_report) := ⟨rfl, rfl, rfl, by decide +kernel, rfl, by decide +kernel, by decide +kernel⟩
def m_is_report : WS := (sSeq (sIf (cOr (cNot (tV (eCall S_is_tuple_of (aCons (eVar 0) (aCons (eC (.int 4)) aNil))))) (cOr (cNot (tV (eCB isi (aCons (eOp ixD (eVar 0) (eC (.int 3))) (aCons (eC (.ty "tuple")) aNil))))) (tV (eOp eqD (eOp ixD (eVar 0) (eC (.int 3))) (eTup aNil))))) (sRet (eC (.bl false))) sNext) (sSeq (sIf (cNot (tV (eCB allD (aCons (eLc (iSeq (eOp ixD (eVar 0) (eC (.int 3)))) (gN 3) cYes (eAnd (eCall S_is_tuple_of (aCons (eVar 3) (aCons (eC (.int 2)) aNil))) (eCB isi (aCons (eOp ixD (eVar 3) (eC (.int 0))) (aCons (eC (.ty "tuple")) aNil)))) [3]) aNil)))) (sRet (eC (.bl false))) sNext) (sSeq (sSet 1 (eCB lenD (aCons (eOp ixD (eOp ixD (eOp ixD (eVar 0) (eC (.int 3))) (eC (.int 0))) (eC (.int 0))) aNil))) (sSeq (sIf (cOr (cNot (tV (eCall S_is_number (aCons (eVar 1) (aCons (eC (.int 1)) (aCons (eC (.int 5)) aNil)))))) (cNot (tV (eCB allD (aCons ((fLc2 (iSeq (eOp ixD (eVar 0) (eC (.int 3)))) (gN 3) cYes (iSeq (eVar 3)) (gN 4) cYes (eCall S_is_counts (aCons (eVar 4) (aCons (eVar 1) aNil))) [3, 4] [4]).e) aNil))))) (sRet (eC (.bl false))) sNext) (sSeq (sSet 2 (eAnd (eCall S_is_number (aCons (eOp ixD (eVar 0) (eC (.int 0))) (aCons (eC (.int 0)) (aCons (eOp subD (eVar 1) (eC (.int 1))) aNil)))) (eCall S_is_number (aCons (eOp ixD (eVar 0) (eC (.int 1))) (aCons (eC (.int 0)) (aCons (eC (.int 1000000)) aNil)))))) (sRet (eAnd (eVar 2) (eCall S_is_number (aCons (eOp ixD (eVar 0) (eC (.int 2))) (aCons (eC (.int 0)) (aCons (eCB lenD (aCons (eOp ixD (eVar 0) (eC (.int 3))) aNil)) aNil)))))))))))
theorem d_is_report (T : Tx K mg) : DSs (gOf P w K mg base 3 N_is_report st_is_report false) (defBody st_is_report) m_is_report := (ds_cons (ds_if (dt_w (dw_or (dt_not (dt_val (de_call (W_is_tuple_of T) (da_cons (de_var 0) (da_cons de_int da_nil))))) (dw_or (dt_not (dt_val (de_cb (fun y ok => call_isi) s_isi T.b_isinstance (da_cons (de_ix (de_var 0) de_int) (da_cons (de_bty T.b_tuple) da_nil))))) (dw_or1 (dt_cmp (fun y ok => op_eqA ok.room.units) s_eq (de_ix (de_var 0) de_int) (de_tup da_nil)))))) (ds_one (ds_ret de_bl)) ds_nil) (ds_cons (ds_if (dt_not (dt_val (de_cb (fun y ok => cr_all rfl) s_all T.b_all (da_cons (de_lc [("row", 3)] (di_seq (de_ix (de_var 0) de_int)) (by first | exact blk_of (by decide +kernel) | exact blk_of2 (by decide +kernel)) (dg_name 3) dts_nil (de_and (de_call (W_is_tuple_of T) (da_cons (de_var 3) (da_cons de_int da_nil))) (de_one (de_cb (fun y ok => call_isi) s_isi T.b_isinstance (da_cons (de_ix (de_var 3) de_int) (da_cons (de_bty T.b_tuple) da_nil)))))) da_nil)))) (ds_one (ds_ret de_bl)) ds_nil) (ds_cons (ds_set 1 (de_cb (fun y ok => call_len) s_len T.b_len (da_cons (de_ix (de_ix (de_ix (de_var 0) de_int) de_int) de_int) da_nil))) (ds_cons (ds_if (dt_w (dw_or (dt_not (dt_val (de_call (W_is_number T) (da_cons (de_var 1) (da_cons de_int (da_cons (de_glob T.c_MOST_HOUSES) da_nil)))))) (dw_or1 (dt_not (dt_val (de_cb (fun y ok => cr_all rfl) s_all T.b_all (da_cons (de_lc2 [("row", 3), ("side", 4)] [4] (di_seq (de_ix (de_var 0) de_int)) (by first | exact blk_of (by decide +kernel) | exact blk_of2 (by decide +kernel)) (dg_name 3) dts_nil (di_seq (de_var 3)) (dg_name 4) dts_nil (de_call (W_is_counts T) (da_cons (de_var 4) (da_cons (de_var 1) da_nil)))) da_nil))))))) (ds_one (ds_ret de_bl)) ds_nil) (ds_cons (ds_set 2 (de_and (de_call (W_is_number T) (da_cons (de_ix (de_var 0) de_int) (da_cons de_int (da_cons (de_op (fun y ok => op_sub) s_sub (de_var 1) de_int) da_nil)))) (de_one (de_call (W_is_number T) (da_cons (de_ix (de_var 0) de_int) (da_cons de_int (da_cons (de_glob T.c_MOST_COUNT) da_nil))))))) (ds_one (ds_ret (de_and (de_var 2) (de_one (de_call (W_is_number T) (da_cons (de_ix (de_var 0) de_int) (da_cons de_int (da_cons (de_cb (fun y ok => call_len) s_len T.b_len (da_cons (de_ix (de_var 0) de_int) da_nil)) da_nil)))))))))))))
theorem w_is_report (T : Tx K mg) : FnW P w K mg base 4 "is_report" 1 (fnF N_is_report m_is_report) := fnW_of T.f_is_report sc_is_report (by decide) (fun _ _ _ _ _ _ us hl => match us, hl with | [_], _ => rfl) (d_is_report T)
theorem u_is_report {d0 : D} {R : D → Prop} : (fnF N_is_report m_is_report).f [d0] R = m_is_report.f { nx := fun _ => R .non, rt := R } ⟨[.sh d0, .un, .un, .un, .un], fun _ => False⟩ := rfl
def rowSh : D → Bool
  | .tup [.tup _, _] => true
  | _ => false
def manyOf : List D → Nat
  | .tup (.tup xs :: _) :: _ => xs.length
  | _ => 0
def rowOk (m : Nat) : D → Bool
  | .tup ds => ds.all fun x => cnts x m
  | _ => false
def isRep : D → Bool
  | .tup [a, b, c, .tup rows] => !rows.isEmpty && rows.all rowSh && (decide (1 ≤ manyOf rows) && decide (manyOf rows ≤ 5) && rows.all (rowOk (manyOf rows))) && (num a 0 (manyOf rows - 1) && num b 0 1000000 && num c 0 rows.length)
  | _ => false
def S_is_report : WFn := ⟨fun ds R => ∃ n d, ds = [d] ∧ Pl n d = true ∧ n ≤ 1000 ∧ R (.bl (isRep d)), 0⟩
theorem tup4 {d : D} (h : isTupN d 4 = true) : ∃ a b c e, d = .tup [a, b, c, e] := by
  cases d with
  | tup ds =>
    have hl : ds.length = 4 := by
      have : (ds.length : Int) = 4 := of_decide_eq_true h
      omega
    match ds, hl with
    | [a, b, c, e], _ => exact ⟨a, b, c, e, rfl⟩
  | _ => cases h
theorem tup2 {d : D} (h : isTupN d 2 = true) : ∃ a b, d = .tup [a, b] := by
  cases d with
  | tup ds =>
    have hl : ds.length = 2 := by
      have : (ds.length : Int) = 2 := of_decide_eq_true h
      omega
    match ds, hl with
    | [a, b], _ => exact ⟨a, b, rfl⟩
  | _ => cases h
theorem isRep_no {d : D} (h : isTupN d 4 = false) : isRep d = false := by
  cases e : isRep d with
  | false => rfl
  | true =>
    exfalso
    unfold isRep at e
    split at e
    · cases h
    · cases e
theorem rowSh_inv {d : D} (h : rowSh d = true) : ∃ xs y, d = .tup [.tup xs, y] := by
  unfold rowSh at h
  split at h
  · exact ⟨_, _, rfl⟩
  · cases h
theorem I_is_report : ∀ ds R, ds.length = 1 → S_is_report.f ds R → (fnF N_is_report m_is_report).f ds R := by
  rintro _ R - ⟨n, d, rfl, hp, hn, h⟩
  have hs : 4096 * 4096 ≤ sizeLine := by rw [sizeLine_eq]; decide
  refine ⟨d, rfl, n, d, 4, rfl, hp, _, rfl, ?_⟩
  cases hT : isTupN d 4 with
  | false =>
    rw [isRep_no hT] at h
    exact h
  | true =>
    obtain ⟨a, b, c, e, rfl⟩ := tup4 hT
    have hm := (Pl_tup.mp hp).2
    have ha := hm a (by simp)
    have hb := hm b (by simp)
    have hc := hm c (by simp)
    have he := hm e (by simp)
    refine ⟨_, rfl, _, ix3, _, isi_tuple he, _, rfl, ?_⟩
    cases e with
    | tup rows =>
      refine ⟨_, rfl, _, ix3, by show 0 ≤ sizeLine; omega, _, eqD_nil rows, _, rfl, ?_⟩
      cases rows with
      | nil => exact h
      | cons r0 rs =>
        have hrm := (Pl_tup.mp he).2
        have hrl := (Pl_tup.mp he).1
        refine ⟨_, rfl, _, ix3, _, rfl, lcW_map (fun r => .bl (rowSh r)) (fun row hrow Kt hK => ?_) ⟨_, allD_of, _, rfl, ?_⟩⟩
        · refine ⟨row, rfl, n, row, 2, rfl, hrm row hrow, _, rfl, ?_⟩
          cases h2 : isTupN row 2 with
          | false =>
            have : rowSh row = false := by
              cases e : rowSh row with
              | false => rfl
              | true => obtain ⟨xs, y, rfl⟩ := rowSh_inv e; cases h2
            rw [this] at hK
            exact hK
          | true =>
            obtain ⟨x, y, rfl⟩ := tup2 h2
            refine ⟨_, rfl, _, ix0, _, isi_tuple ((Pl_tup.mp (hrm _ hrow)).2 x (by simp)), ?_⟩
            have : rowSh (.tup [x, y]) = isTup x := by cases x <;> rfl
            rw [this] at hK
            exact hK
        · cases hA : (r0 :: rs).all rowSh with
          | false =>
            have : isRep (.tup [a, b, c, .tup (r0 :: rs)]) = false := by simp [isRep, hA]
            rw [this] at h
            exact h
          | true =>
            have hA0 := List.all_eq_true.mp hA
            obtain ⟨xs, y0, hr0⟩ := rowSh_inv (hA0 r0 List.mem_cons_self)
            have hM : manyOf (r0 :: rs) = xs.length := by rw [hr0]; rfl
            refine ⟨_, rfl, _, ix3, _, ix0, _, by rw [hr0]; exact ix0, _, lenD_tup, ?_⟩
            refine ⟨_, rfl, n, .int xs.length, 1, 5, rfl, rfl, _, rfl, ?_⟩
            cases hN : num (.int xs.length) 1 5 with
            | false =>
              have : isRep (.tup [a, b, c, .tup (r0 :: rs)]) = false := by
                have : (decide (1 ≤ xs.length) && decide (xs.length ≤ 5)) = false := by
                  simp only [num, Bool.and_eq_false_iff, decide_eq_false_iff_not] at hN ⊢
                  omega
                simp only [isRep, hA, hM, this]
                simp
              rw [this] at h
              exact h
            | true =>
              have hN' : 1 ≤ xs.length ∧ xs.length ≤ 5 := by
                simp only [num, Bool.and_eq_true, decide_eq_true_eq] at hN
                omega
              refine ⟨_, rfl, _, ix3, _, rfl, by omega, lcW2_map kids (fun s => .bl (cnts s xs.length)) (fun row hrow Kt out hK => ?_) ⟨_, allD_flat, _, rfl, ?_⟩⟩
              · obtain ⟨zs, y, hrow'⟩ := rowSh_inv (hA0 row hrow)
                subst hrow'
                refine ⟨_, rfl, [.tup zs, y], rfl, by show 2 ≤ 4096; decide, lcW_map (fun s => .bl (cnts s xs.length)) (fun s hs Kt hK => ⟨s, rfl, _, rfl, n, s, xs.length, rfl, (Pl_tup.mp (hrm _ hrow)).2 s hs, hK⟩) hK⟩
              · have hK2 : ((r0 :: rs).all fun x => (kids x).all fun s => cnts s xs.length) = (r0 :: rs).all (rowOk xs.length) := by
                  have : ∀ l : List D, (∀ x ∈ l, rowSh x = true) → (l.all fun x => (kids x).all fun s => cnts s xs.length) = l.all (rowOk xs.length) := by
                    intro l
                    induction l with
                    | nil => intro _; rfl
                    | cons x l ih =>
                      intro hx
                      obtain ⟨zs, y, rfl⟩ := rowSh_inv (hx x List.mem_cons_self)
                      rw [List.all_cons, List.all_cons, ih fun z hz => hx z (List.mem_cons_of_mem _ hz)]
                      rfl
                  exact this _ hA0
                rw [hK2]
                cases hC : (r0 :: rs).all (rowOk xs.length) with
                | false =>
                  have : isRep (.tup [a, b, c, .tup (r0 :: rs)]) = false := by
                    simp only [isRep, hA, hM, hC]
                    simp
                  rw [this] at h
                  exact h
                | true =>
                  have hE : isRep (.tup [a, b, c, .tup (r0 :: rs)]) = (num a 0 (xs.length - 1) && num b 0 1000000 && num c 0 (r0 :: rs).length) := by
                    simp only [isRep, hA, hM, hC]
                    simp [hN'.1, hN'.2]
                  rw [hE] at h
                  refine ⟨_, rfl, _, ix0, _, rfl, _, subD_int, n, a, 0, xs.length - 1, rfl, ha, _, rfl, ?_⟩
                  have last : ∀ k : Bool, (num a 0 (xs.length - 1) && num b 0 1000000) = k → (sRet (eAnd (eVar 2) (eCall S_is_number (aCons (eOp ixD (eVar 0) (eC (.int 2))) (aCons (eC (.int 0)) (aCons (eCB lenD (aCons (eOp ixD (eVar 0) (eC (.int 3))) aNil)) aNil)))))).f { nx := fun _ => R .non, rt := R } ⟨[.sh (.tup [a, b, c, .tup (r0 :: rs)]), .sh (.int xs.length), .sh (.bl k), .un, .un], fun _ => False⟩ := by
                    intro k hk
                    refine ⟨_, rfl, k, rfl, ?_⟩
                    rw [hk] at h
                    cases k with
                    | false => exact h
                    | true => exact ⟨_, rfl, _, ix2, _, rfl, _, ix3, _, lenD_tup, n, c, 0, _, rfl, hc, h⟩
                  cases h1 : num a 0 (xs.length - 1) with
                  | false => exact last false (by rw [h1]; rfl)
                  | true =>
                    refine ⟨_, rfl, _, ix1, n, b, 0, 1000000, rfl, hb, ?_⟩
                    exact last _ (by rw [h1]; rfl)
    | _ => exact h
def sideG (m : Nat) (xs : List D) : Bool := decide (xs.length = m) && (decide (1 ≤ xs.length) && decide (xs.length ≤ 5)) && xs.all fun x => num x 0 1000000
def good (m : Nat) : D → Bool
  | .tup [.tup xs, .tup ys] => sideG m xs && sideG m ys
  | _ => false
theorem good_inv {m : Nat} {d : D} (h : good m d = true) : ∃ xs ys, d = .tup [.tup xs, .tup ys] ∧ sideG m xs = true ∧ sideG m ys = true := by
  unfold good at h
  split at h
  · rw [Bool.and_eq_true] at h
    exact ⟨_, _, rfl, h.1, h.2⟩
  · cases h
theorem isRep_eq {a b c r0 : D} {rs : List D} : isRep (.tup [a, b, c, .tup (r0 :: rs)]) = ((r0 :: rs).all (good (manyOf (r0 :: rs))) && (num a 0 (manyOf (r0 :: rs) - 1) && num b 0 1000000 && num c 0 (r0 :: rs).length)) := by
  have key : ((r0 :: rs).all rowSh && (decide (1 ≤ manyOf (r0 :: rs)) && decide (manyOf (r0 :: rs) ≤ 5) && (r0 :: rs).all (rowOk (manyOf (r0 :: rs))))) = (r0 :: rs).all (good (manyOf (r0 :: rs))) := by
    generalize manyOf (r0 :: rs) = m
    rw [Bool.eq_iff_iff]
    simp only [Bool.and_eq_true, List.all_eq_true, decide_eq_true_eq]
    constructor
    · rintro ⟨h1, ⟨h2, h3⟩, h4⟩ x hx
      obtain ⟨xs, y, rfl⟩ := rowSh_inv (h1 x hx)
      have h5 := h4 _ hx
      simp only [rowOk, List.all_cons, List.all_nil, Bool.and_true, Bool.and_eq_true] at h5
      cases y with
      | tup ys =>
        simp only [cnts, Bool.and_eq_true, decide_eq_true_eq] at h5
        obtain ⟨⟨h6, h7⟩, h8, h9⟩ := h5
        simp only [good, sideG, Bool.and_eq_true, decide_eq_true_eq]
        exact ⟨⟨⟨by omega, by omega, by omega⟩, h7⟩, ⟨by omega, by omega, by omega⟩, h9⟩
      | _ => exact absurd h5.2 (by simp [cnts])
    · intro h
      refine ⟨fun x hx => ?_, ?_, fun x hx => ?_⟩
      · obtain ⟨xs, ys, rfl, _, _⟩ := good_inv (h x hx); rfl
      · obtain ⟨xs, ys, _, h1, _⟩ := good_inv (h r0 List.mem_cons_self)
        simp only [sideG, Bool.and_eq_true, decide_eq_true_eq] at h1
        omega
      · obtain ⟨xs, ys, rfl, h1, h2⟩ := good_inv (h x hx)
        simp only [sideG, Bool.and_eq_true, decide_eq_true_eq] at h1 h2
        simp only [rowOk, List.all_cons, List.all_nil, Bool.and_true, cnts, Bool.and_eq_true, decide_eq_true_eq]
        exact ⟨⟨by omega, h1.2⟩, by omega, h2.2⟩
  rw [← key]
  simp [isRep, Bool.and_assoc]
theorem W_is_report (T : Tx K mg) : FnW P w K mg base 4 "is_report" 1 S_is_report := (w_is_report T).imp (by decide) I_is_report
theorem W_is_report_k0 (T : Tx K mg) : FnKW P w K mg base 4 "is_report" ["value"] [0] 1 S_is_report := (fnKW_of T.f_is_report sc_is_report (by decide) (fun _ _ _ _ _ _ ws hl => match ws, hl with | [_], _ => rfl) (d_is_report T)).imp (by decide) I_is_report
/-! ### is_lot_of_reports -/
abbrev N_is_lot_of_reports : List Str := ["value", "layers", "told", "report", "house"]
theorem sc_is_lot_of_reports : FnScope N_is_lot_of_reports ["value"] (defScope st_is_lot_of_reports) := ⟨rfl, rfl, rfl, by decide +kernel, rfl, by decide +kernel, by decide +kernel⟩
def m_is_lot_of_reports : WS := (sSeq (sIf (cOr (cNot (tV (eCB isi (aCons (eVar 0) (aCons (eC (.ty "tuple")) aNil))))) (cOr (tV (eOp eqD (eVar 0) (eTup aNil))) (cNot (tV (eCB allD (aCons (eLc (iSeq (eVar 0)) (gN 3) cYes (eCall S_is_report (aCons (eVar 3) aNil)) [3]) aNil)))))) (sRet (eC (.bl false))) sNext) (sSeq (sSet 1 (eCB lenD (aCons (eOp ixD (eOp ixD (eVar 0) (eC (.int 0))) (eC (.int 3))) aNil))) (sSeq (sSet 2 (eLc (iSeq (eVar 0)) (gN 3) cYes (eTup (aCons (eOp ixD (eVar 3) (eC (.int 0))) (aCons (eCB lenD (aCons (eOp ixD (eVar 3) (eC (.int 3))) aNil)) (aCons (eCB lenD (aCons (eOp ixD (eOp ixD (eOp ixD (eVar 3) (eC (.int 3))) (eC (.int 0))) (eC (.int 0))) aNil)) aNil)))) [3])) (sRet (eOp eqD (eVar 2) (eLc (iRange (aCons (eCB lenD (aCons (eVar 0) aNil)) aNil)) (gN 4) cYes (eTup (aCons (eVar 4) (aCons (eVar 1) (aCons (eCB lenD (aCons (eVar 0) aNil)) aNil)))) [4]))))))
theorem d_is_lot_of_reports (T : Tx K mg) : DSs (gOf P w K mg base 4 N_is_lot_of_reports st_is_lot_of_reports false) (defBody st_is_lot_of_reports) m_is_lot_of_reports := (ds_cons (ds_if (dt_w (dw_or (dt_not (dt_val (de_cb (fun y ok => call_isi) s_isi T.b_isinstance (da_cons (de_var 0) (da_cons (de_bty T.b_tuple) da_nil))))) (dw_or (dt_cmp (fun y ok => op_eqA ok.room.units) s_eq (de_var 0) (de_tup da_nil)) (dw_or1 (dt_not (dt_val (de_cb (fun y ok => cr_all rfl) s_all T.b_all (da_cons (de_lc [("report", 3)] (di_seq (de_var 0)) (by first | exact blk_of (by decide +kernel) | exact blk_of2 (by decide +kernel)) (dg_name 3) dts_nil (de_call (W_is_report T) (da_cons (de_var 3) da_nil))) da_nil)))))))) (ds_one (ds_ret de_bl)) ds_nil) (ds_cons (ds_set 1 (de_cb (fun y ok => call_len) s_len T.b_len (da_cons (de_ix (de_ix (de_var 0) de_int) de_int) da_nil))) (ds_cons (ds_setLc [("report", 3)] 2 (di_seq (de_var 0)) (by first | exact blk_of (by decide +kernel) | exact blk_of2 (by decide +kernel)) (dg_name 3) dts_nil (de_tup (da_cons (de_ix (de_var 3) de_int) (da_cons (de_cb (fun y ok => call_len) s_len T.b_len (da_cons (de_ix (de_var 3) de_int) da_nil)) (da_cons (de_cb (fun y ok => call_len) s_len T.b_len (da_cons (de_ix (de_ix (de_ix (de_var 3) de_int) de_int) de_int) da_nil)) da_nil))))) (ds_one (ds_ret (de_cmp (fun y ok => op_eqA ok.room.units) s_eq (de_var 2) (de_lc [("house", 4)] (di_range T.b_range (da_cons (de_cb (fun y ok => call_len) s_len T.b_len (da_cons (de_var 0) da_nil)) da_nil)) (by first | exact blk_of (by decide +kernel) | exact blk_of2 (by decide +kernel)) (dg_name 4) dts_nil (de_tup (da_cons (de_var 4) (da_cons (de_var 1) (da_cons (de_cb (fun y ok => call_len) s_len T.b_len (da_cons (de_var 0) da_nil)) da_nil)))))))))))
theorem w_is_lot_of_reports (T : Tx K mg) : FnW P w K mg base 5 "is_lot_of_reports" 1 (fnF N_is_lot_of_reports m_is_lot_of_reports) := fnW_of T.f_is_lot_of_reports sc_is_lot_of_reports (by decide) (fun _ _ _ _ _ _ us hl => match us, hl with | [_], _ => rfl) (d_is_lot_of_reports T)
theorem u_is_lot_of_reports {d0 : D} {R : D → Prop} : (fnF N_is_lot_of_reports m_is_lot_of_reports).f [d0] R = m_is_lot_of_reports.f { nx := fun _ => R .non, rt := R } ⟨[.sh d0, .un, .un, .un, .un], fun _ => False⟩ := rfl
def repRows : D → List D
  | .tup [_, _, _, .tup rows] => rows
  | _ => []
def repH : D → Int
  | .tup (.int a :: _) => a
  | _ => 0
def repT : D → Int
  | .tup (_ :: _ :: .int c :: _) => c
  | _ => 0
def lotOk (L M : Nat) : Nat → List D → Bool
  | _, [] => true
  | i, r :: rs => decide (repH r = (i : Int)) && decide ((repRows r).length = L) && decide (manyOf (repRows r) = M) && lotOk L M (i + 1) rs
def layersOf : D → Nat
  | .tup (r :: _) => (repRows r).length
  | _ => 0
def isLot : D → Bool
  | .tup rs => !rs.isEmpty && rs.all isRep && lotOk (layersOf (.tup rs)) rs.length 0 rs
  | _ => false
def S_is_lot_of_reports : WFn := ⟨fun ds R => ∃ n d, ds = [d] ∧ Pl n d = true ∧ n ≤ 1000 ∧ R (.bl (isLot d)), 0⟩
/-- what a right report is -/
theorem isRep_inv {d : D} (h : isRep d = true) : ∃ (a b c : Int) (r0 : D) (rs : List D), d = .tup [.int a, .int b, .int c, .tup (r0 :: rs)] ∧ 0 ≤ a ∧ a < manyOf (r0 :: rs) ∧ ∀ row ∈ r0 :: rs, good (manyOf (r0 :: rs)) row = true := by
  have h4 : isTupN d 4 = true := by
    cases e : isTupN d 4 with
    | true => rfl
    | false => rw [isRep_no e] at h; cases h
  obtain ⟨a, b, c, e, rfl⟩ := tup4 h4
  cases e with
  | tup rows =>
    cases rows with
    | nil => cases h
    | cons r0 rs =>
      rw [isRep_eq] at h
      simp only [Bool.and_eq_true] at h
      obtain ⟨h1, ⟨h2, h3⟩, h5⟩ := h
      cases a with
      | int a => cases b with
        | int b => cases c with
          | int c =>
            simp only [num, Bool.and_eq_true, decide_eq_true_eq] at h2
            exact ⟨a, b, c, r0, rs, rfl, h2.1, by omega, List.all_eq_true.mp h1⟩
          | _ => cases h5
        | _ => cases h3
      | _ => cases h2
  | _ => cases h
def I3 (d : D) : Prop := ∃ x y z, d = .tup [.int x, .int y, .int z]
theorem ok_I3 : ∀ {ds : List D}, (∀ d ∈ ds, I3 d) → okqs ds = true ∧ PyData.depthAll (toPs ds) ≤ 1
  | [], _ => ⟨rfl, by simp [toPs, PyData.depthAll]⟩
  | d :: ds, h => by
    obtain ⟨x, y, z, rfl⟩ := h d List.mem_cons_self
    obtain ⟨h1, h2⟩ := ok_I3 (ds := ds) fun e he => h e (List.mem_cons_of_mem _ he)
    exact ⟨by simp [okqs, okq, h1], by simp only [toPs, toP, PyData.depthAll, PyData.depth]; omega⟩
theorem lot_eqv (L M : Nat) : ∀ (rs : List D) (i : Nat), PyData.eqvAll (toPs (rs.map fun r => .tup [.int (repH r), .int (repRows r).length, .int (manyOf (repRows r))])) (toPs ((List.range' i rs.length).map fun k : Nat => .tup [.int k, .int L, .int M])) = lotOk L M i rs
  | [], _ => by simp [toPs, PyData.eqvAll, lotOk]
  | r :: rs, i => by
    rw [List.length_cons, List.range'_succ, List.map_cons, List.map_cons]
    simp only [toPs, toP, PyData.eqvAll, PyData.eqv, lotOk, beq_dec, Bool.and_true]
    rw [lot_eqv L M rs (i + 1)]
    congr 1
    rw [Bool.eq_iff_iff]
    simp only [Bool.and_eq_true, decide_eq_true_eq]
    omega
theorem I_is_lot_of_reports : ∀ ds R, ds.length = 1 → S_is_lot_of_reports.f ds R → (fnF N_is_lot_of_reports m_is_lot_of_reports).f ds R := by
  rintro _ R - ⟨n, d, rfl, hp, hn, h⟩
  have hs : 4096 * 4096 ≤ sizeLine := by rw [sizeLine_eq]; decide
  refine ⟨d, rfl, _, isi_tuple hp, _, rfl, ?_⟩
  cases d with
  | tup rs =>
    obtain ⟨hl, hm⟩ := Pl_tup.mp hp
    refine ⟨_, rfl, by show 0 ≤ sizeLine; omega, _, eqD_nil rs, _, rfl, ?_⟩
    cases rs with
    | nil => exact h
    | cons r0 rs0 =>
      generalize hrs : r0 :: rs0 = rs at *
      have he : rs.isEmpty = false := by rw [← hrs]; rfl
      have h0 : 0 < rs.length := by rw [← hrs]; exact Nat.succ_pos _
      rw [he]
      refine ⟨_, rfl, rs, rfl, lcW_map (fun r => .bl (isRep r)) (fun r hr Kt hK => ⟨r, rfl, n, r, rfl, hm r hr, hn, hK⟩) ⟨_, allD_of, _, rfl, ?_⟩⟩
      cases hA : rs.all isRep with
      | false =>
        have : isLot (.tup rs) = false := by simp [isLot, hA]
        rw [this] at h
        exact h
      | true =>
        have hA0 := List.all_eq_true.mp hA
        have hr0 : r0 ∈ rs := by rw [← hrs]; simp
        obtain ⟨a0, b0, c0, q0, qs, e0, _⟩ := isRep_inv (hA0 r0 hr0)
        have hix : atI rs 0 = some r0 := by rw [← hrs]; exact ix0
        refine ⟨_, rfl, _, hix, _, by rw [e0]; exact ix3, _, lenD_tup, ?_⟩
        refine ⟨_, rfl, rs, rfl, lcW_map (fun r => .tup [.int (repH r), .int (repRows r).length, .int (manyOf (repRows r))]) (fun r hr Kt hK => ?_) ?_⟩
        · obtain ⟨a, b, c, w0, ws, rfl, h1, h2, h3⟩ := isRep_inv (hA0 r hr)
          obtain ⟨xs, ys, hw, _, _⟩ := good_inv (h3 w0 List.mem_cons_self)
          refine ⟨_, rfl, _, ix0, _, rfl, _, ix3, _, lenD_tup, _, rfl, _, ix3, _, ix0, _, by rw [hw]; exact ix0, _, lenD_tup, by show 3 ≤ sizeLine; omega, ?_⟩
          have : manyOf (w0 :: ws) = xs.length := by rw [hw]; rfl
          have hK : Kt (.tup [.int a, .int (w0 :: ws).length, .int (manyOf (w0 :: ws))]) := hK
          rw [this] at hK
          exact hK
        · refine ⟨_, rfl, _, rfl, _, lenD_tup, _, rfl, by omega, by rw [Int.toNat_natCast]; omega, ?_⟩
          rw [Int.toNat_natCast]
          refine lcW_map (fun k => .tup [k, .int (q0 :: qs).length, .int rs.length]) (fun k hk Kt hK => ⟨k, rfl, _, rfl, _, rfl, _, lenD_tup, by show 3 ≤ sizeLine; omega, hK⟩) ?_
          have hL : layersOf (.tup rs) = (q0 :: qs).length := by rw [← hrs]; show (repRows r0).length = _; rw [e0]; rfl
          have hE : isLot (.tup rs) = lotOk (q0 :: qs).length rs.length 0 rs := by
            simp only [isLot, hA, hL, he]
            rfl
          rw [hE, ← lot_eqv] at h
          have hB : ((upto rs.length).map fun k => D.tup [k, .int (q0 :: qs).length, .int rs.length]) = (List.range' 0 rs.length).map fun k : Nat => D.tup [.int k, .int (q0 :: qs).length, .int rs.length] := by
            rw [← List.range_eq_range']
            unfold upto
            rw [List.map_map]; rfl
          rw [hB]
          have o1 := ok_I3 (ds := rs.map fun r => .tup [.int (repH r), .int (repRows r).length, .int (manyOf (repRows r))]) fun d hd => by
            obtain ⟨r, _, rfl⟩ := List.mem_map.mp hd
            exact ⟨_, _, _, rfl⟩
          have o2 := ok_I3 (ds := (List.range' 0 rs.length).map fun k : Nat => .tup [.int k, .int (q0 :: qs).length, .int rs.length]) fun d hd => by
            obtain ⟨r, _, rfl⟩ := List.mem_map.mp hd
            exact ⟨_, _, _, rfl⟩
          refine ⟨_, eqD_seqL (A := rs.map fun r => .tup [.int (repH r), .int (repRows r).length, .int (manyOf (repRows r))]) (B := (List.range' 0 rs.length).map fun k : Nat => .tup [.int k, .int (q0 :: qs).length, .int rs.length]) (fun z => ?_) o1.1 o2.1 (by have := o1.2; omega), h⟩
          have := congrArg List.length z
          rw [List.length_map, List.length_range', List.length_nil] at this
          omega
  | _ => exact h
/-- a right report, taken apart -/
structure Rep (L M : Nat) (r : D) : Prop where
  ex : ∃ (a b c : Int) (rows : List D), r = .tup [.int a, .int b, .int c, .tup rows] ∧ rows.length = L ∧ 0 ≤ a ∧ a < M ∧ ∀ i, i < L → ∃ xs ys : List Int, rows[i]? = some (.tup [.tup (xs.map .int), .tup (ys.map .int)]) ∧ xs.length = M ∧ ys.length = M
theorem W_is_lot_of_reports (T : Tx K mg) : FnW P w K mg base 5 "is_lot_of_reports" 1 S_is_lot_of_reports := (w_is_lot_of_reports T).imp (by decide) I_is_lot_of_reports
/-! ### shows_done -/
abbrev N_shows_done : List Str := ["value", "layer", "report", "other"]
theorem sc_shows_done : FnScope N_shows_done ["value", "layer"] (defScope st_shows_done) := ⟨rfl, rfl, rfl, by decide +kernel, rfl, by decide +kernel, by decide +kernel⟩
def m_shows_done : WS := (sSeq (sIf (cOr (cNot (tV (eCall S_is_lot_of_reports (aCons (eVar 0) aNil)))) (cNot (tV (eCall S_is_number (aCons (eVar 1) (aCons (eC (.int 0)) (aCons (eOp subD (eCB lenD (aCons (eOp ixD (eOp ixD (eVar 0) (eC (.int 0))) (eC (.int 3))) aNil)) (eC (.int 1))) aNil))))))) (sRet (eC (.bl false))) sNext) (sSeq (sIf (cNot (tV (eCB allD (aCons (eLc (iSeq (eVar 0)) (gN 2) cYes (eOp geD (eOp ixD (eVar 2) (eC (.int 2))) (eVar 1)) [2]) aNil)))) (sRet (eC (.bl false))) sNext) (sSeq (sFor (iSeq (eVar 0)) (gN 2) (sFor (iSeq (eVar 0)) (gN 3) (sIf (tV (eOp neD (eOp ixD (eOp ixD (eOp ixD (eOp ixD (eVar 2) (eC (.int 3))) (eVar 1)) (eC (.int 0))) (eOp ixD (eVar 3) (eC (.int 0)))) (eOp ixD (eOp ixD (eOp ixD (eOp ixD (eVar 3) (eC (.int 3))) (eVar 1)) (eC (.int 1))) (eOp ixD (eVar 2) (eC (.int 0)))))) (sRet (eC (.bl false))) sNext))) (sRet (eC (.bl true))))))
theorem d_shows_done (T : Tx K mg) : DSs (gOf P w K mg base 5 N_shows_done st_shows_done false) (defBody st_shows_done) m_shows_done := (ds_cons (ds_if (dt_w (dw_or (dt_not (dt_val (de_call (W_is_lot_of_reports T) (da_cons (de_var 0) da_nil)))) (dw_or1 (dt_not (dt_val (de_call (W_is_number T) (da_cons (de_var 1) (da_cons de_int (da_cons (de_op (fun y ok => op_sub) s_sub (de_cb (fun y ok => call_len) s_len T.b_len (da_cons (de_ix (de_ix (de_var 0) de_int) de_int) da_nil)) de_int) da_nil))))))))) (ds_one (ds_ret de_bl)) ds_nil) (ds_cons (ds_if (dt_not (dt_val (de_cb (fun y ok => cr_all rfl) s_all T.b_all (da_cons (de_lc [("report", 2)] (di_seq (de_var 0)) (by first | exact blk_of (by decide +kernel) | exact blk_of2 (by decide +kernel)) (dg_name 2) dts_nil (de_cmp (fun y ok => op_ge) s_ge (de_ix (de_var 2) de_int) (de_var 1))) da_nil)))) (ds_one (ds_ret de_bl)) ds_nil) (ds_cons (ds_for (di_seq (de_var 0)) (dg_name 2) (ds_one (ds_for (di_seq (de_var 0)) (dg_name 3) (ds_one (ds_if (dt_cmp (fun y ok => op_neA ok.room.units) s_ne (de_ix (de_ix (de_ix (de_ix (de_var 2) de_int) (de_var 1)) de_int) (de_ix (de_var 3) de_int)) (de_ix (de_ix (de_ix (de_ix (de_var 3) de_int) (de_var 1)) de_int) (de_ix (de_var 2) de_int))) (ds_one (ds_ret de_bl)) ds_nil))))) (ds_one (ds_ret de_bl)))))
theorem w_shows_done (T : Tx K mg) : FnW P w K mg base 6 "shows_done" 2 (fnF N_shows_done m_shows_done) := fnW_of T.f_shows_done sc_shows_done (by decide) (fun _ _ _ _ _ _ us hl => match us, hl with | [_, _], _ => rfl) (d_shows_done T)
theorem u_shows_done {d0 d1 : D} {R : D → Prop} : (fnF N_shows_done m_shows_done).f [d0, d1] R = m_shows_done.f { nx := fun _ => R .non, rt := R } ⟨[.sh d0, .sh d1, .un, .un], fun _ => False⟩ := rfl
def cellD (r : D) (i side : Nat) (h : Int) : Option D := match (repRows r)[i]? with
  | some (.tup ds) => match ds[side]? with
    | some (.tup xs) => xs[h.toNat]?
    | _ => none
  | _ => none
def cellI (r : D) (i side : Nat) (h : Int) : Int := match cellD r i side h with
  | some (.int x) => x
  | _ => 0
def sentOk (i : Nat) (r o : D) : Bool := decide (cellI r i 0 (repH o) = cellI o i 1 (repH r))
def shown (v l : D) : Bool := match v with
  | .tup rs => isLot v && num l 0 (layersOf v - 1) && (match l with
    | .int i => rs.all (fun r => decide (i ≤ repT r)) && rs.all fun r => rs.all fun o => sentOk i.toNat r o
    | _ => false)
  | _ => false
def S_shows_done : WFn := ⟨fun ds R => ∃ n v m l, ds = [v, l] ∧ Pl n v = true ∧ n ≤ 1000 ∧ Pl m l = true ∧ R (.bl (shown v l)), 0⟩
theorem ints_of : ∀ {xs : List D} {a b : Int}, (∀ x ∈ xs, num x a b = true) → ∃ ns : List Int, xs = ns.map .int
  | [], _, _, _ => ⟨[], rfl⟩
  | x :: xs, a, b, h => by
    obtain ⟨ns, rfl⟩ := ints_of (xs := xs) (a := a) (b := b) fun y hy => h y (List.mem_cons_of_mem _ hy)
    have hx := h x List.mem_cons_self
    cases x with
    | int i => exact ⟨i :: ns, rfl⟩
    | _ => cases hx
theorem rep_of {L M : Nat} {r : D} (h : isRep r = true) (hL : (repRows r).length = L) (hM : manyOf (repRows r) = M) : Rep L M r := by
  obtain ⟨a, b, c, w0, ws, rfl, h1, h2, h3⟩ := isRep_inv h
  have hM : manyOf (w0 :: ws) = M := hM
  rw [hM] at h2 h3
  refine ⟨a, b, c, w0 :: ws, rfl, hL, h1, h2, fun i hi => ?_⟩
  have hL : (w0 :: ws).length = L := hL
  have hi' : i < (w0 :: ws).length := by omega
  obtain ⟨xs, ys, e, g1, g2⟩ := good_inv (h3 _ (List.getElem_mem hi'))
  simp only [sideG, Bool.and_eq_true, decide_eq_true_eq, List.all_eq_true] at g1 g2
  obtain ⟨ns, rfl⟩ := ints_of g1.2
  obtain ⟨ms, rfl⟩ := ints_of g2.2
  refine ⟨ns, ms, ?_, by have := g1.1.1; rw [List.length_map] at this; exact this, by have := g2.1.1; rw [List.length_map] at this; exact this⟩
  rw [List.getElem?_eq_getElem hi', e]
theorem lot_inv {L M : Nat} : ∀ {rs : List D} {i : Nat}, lotOk L M i rs = true → ∀ r ∈ rs, (repRows r).length = L ∧ manyOf (repRows r) = M
  | r :: rs, i, h, x, hx => by
    simp only [lotOk, Bool.and_eq_true, decide_eq_true_eq] at h
    rcases List.mem_cons.mp hx with z | z
    · rw [z]; exact ⟨h.1.1.2, h.1.2⟩
    · exact lot_inv h.2 x z
theorem lot_reps {rs : List D} (h : isLot (.tup rs) = true) : rs ≠ [] ∧ ∀ r ∈ rs, Rep (layersOf (.tup rs)) rs.length r := by
  simp only [isLot, Bool.and_eq_true, Bool.not_eq_true', List.isEmpty_eq_false_iff, List.all_eq_true] at h
  exact ⟨h.1.1, fun r hr => rep_of (h.1.2 r hr) (lot_inv h.2 r hr).1 (lot_inv h.2 r hr).2⟩
theorem rep_cell {L M : Nat} {r : D} (h : Rep L M r) {i : Nat} (hi : i < L) {x : Int} (h0 : 0 ≤ x) (h1 : x < M) : ∃ rows row s0 s1 c0 c1, ixD r (.int 3) = some (.tup rows) ∧ ixD (.tup rows) (.int i) = some row ∧ ixD row (.int 0) = some s0 ∧ ixD row (.int 1) = some s1 ∧ ixD s0 (.int x) = some (.int c0) ∧ ixD s1 (.int x) = some (.int c1) ∧
    cellI r i 0 x = c0 ∧ cellI r i 1 x = c1 := by
  obtain ⟨a, b, c, rows, rfl, hL, _, _, hr⟩ := h.ex
  obtain ⟨xs, ys, e, l1, l2⟩ := hr i hi
  have hx1 : x.toNat < xs.length := by omega
  have hx2 : x.toNat < ys.length := by omega
  have a1 : atI (xs.map D.int) x = some (.int xs[x.toNat]) := by
    have := atI_nat (xs := xs.map D.int) (j := x.toNat) (v := .int xs[x.toNat]) (by rw [List.getElem?_map, List.getElem?_eq_getElem hx1]; rfl)
    rwa [Int.toNat_of_nonneg h0] at this
  have a2 : atI (ys.map D.int) x = some (.int ys[x.toNat]) := by
    have := atI_nat (xs := ys.map D.int) (j := x.toNat) (v := .int ys[x.toNat]) (by rw [List.getElem?_map, List.getElem?_eq_getElem hx2]; rfl)
    rwa [Int.toNat_of_nonneg h0] at this
  refine ⟨rows, _, _, _, _, _, ix3, atI_nat e, ix0, ix1, a1, a2, ?_, ?_⟩
  · unfold cellI cellD
    rw [show repRows (.tup [.int a, .int b, .int c, .tup rows]) = rows from rfl, e]
    simp [List.getElem?_eq_getElem hx1]
  · unfold cellI cellD
    rw [show repRows (.tup [.int a, .int b, .int c, .tup rows]) = rows from rfl, e]
    simp [List.getElem?_eq_getElem hx2]
theorem rep_house {L M : Nat} {r : D} (h : Rep L M r) : ixD r (.int 0) = some (.int (repH r)) ∧ 0 ≤ repH r ∧ repH r < M ∧ ixD r (.int 2) = some (.int (repT r)) := by
  obtain ⟨a, b, c, rows, rfl, hL, h0, h1, hr⟩ := h.ex
  exact ⟨ix0, h0, h1, ix2⟩
theorem pair_ne {r : Env} {p q : Nat} {one other : D} {i L M : Nat} (h1 : r.sl[p]? = some (.sh one)) (h2 : r.sl[q]? = some (.sh other)) (hl : r.sl[1]? = some (.sh (.int i))) (r1 : Rep L M one) (r2 : Rep L M other) (hi : i < L) {R : D → Prop} (k : R (.bl (!sentOk i one other))) :
    (eOp neD (eOp ixD (eOp ixD (eOp ixD (eOp ixD (eVar p) (eC (.int 3))) (eVar 1)) (eC (.int 0))) (eOp ixD (eVar q) (eC (.int 0)))) (eOp ixD (eOp ixD (eOp ixD (eOp ixD (eVar q) (eC (.int 3))) (eVar 1)) (eC (.int 1))) (eOp ixD (eVar p) (eC (.int 0))))).f r R := by
  obtain ⟨u1, u2, u3, u4⟩ := rep_house r1
  obtain ⟨w1, w2, w3, w4⟩ := rep_house r2
  obtain ⟨rows, row, s0, s1, c0, c1, e1, e2, e3, e4, e5, e6, e7, e8⟩ := rep_cell r1 hi w2 w3
  obtain ⟨rows', row', s0', s1', c0', c1', e1', e2', e3', e4', e5', e6', e7', e8'⟩ := rep_cell r2 hi u2 u3
  refine ⟨one, h1, _, e1, _, hl, _, e2, _, e3, other, h2, _, w1, _, e5, other, h2, _, e1', _, hl, _, e2', _, e4', one, h1, _, u1, _, e6', _, neD_int _ _, ?_⟩
  unfold sentOk at k
  rw [e7, e8'] at k
  exact k
theorem I_shows_done : ∀ ds R, ds.length = 2 → S_shows_done.f ds R → (fnF N_shows_done m_shows_done).f ds R := by
  rintro _ R - ⟨n, v, m, l, rfl, hv, hn, hl, h⟩
  have hs : 4096 * 4096 ≤ sizeLine := by rw [sizeLine_eq]; decide
  refine ⟨v, rfl, n, v, rfl, hv, hn, _, rfl, ?_⟩
  cases hA : isLot v with
  | false =>
    have : shown v l = false := by cases v <;> simp [shown, hA]
    rw [this] at h
    exact h
  | true =>
    cases v with
    | tup rs =>
      obtain ⟨hne, hreps⟩ := lot_reps hA
      cases rs with
      | nil => exact absurd rfl hne
      | cons r0 rs0 =>
        generalize hrs : r0 :: rs0 = rs at *
        have hr0 : r0 ∈ rs := by rw [← hrs]; simp
        have hix : atI rs 0 = some r0 := by rw [← hrs]; exact ix0
        obtain ⟨a0, b0, c0, rows0, e0, hL0, _⟩ := (hreps r0 hr0).ex
        refine ⟨_, rfl, _, rfl, _, hix, _, by rw [e0]; exact ix3, _, lenD_tup, _, subD_int, m, l, 0, _, rfl, hl, _, rfl, ?_⟩
        rw [hL0]
        cases hB : num l 0 (layersOf (.tup rs) - 1) with
        | false =>
          have : shown (.tup rs) l = false := by simp [shown, hB]
          rw [this] at h
          exact h
        | true =>
          cases l with
          | int li =>
            simp only [num, Bool.and_eq_true, decide_eq_true_eq] at hB
            obtain ⟨i, rfl⟩ : ∃ i : Nat, li = i := ⟨li.toNat, by omega⟩
            have hi : i < layersOf (.tup rs) := by omega
            have hE : shown (.tup rs) (.int i) = (rs.all (fun r => decide ((i : Int) ≤ repT r)) && rs.all fun r => rs.all fun o => sentOk i r o) := by
              simp only [shown, hA, num]
              rw [decide_eq_true hB.1, decide_eq_true hB.2]
              rfl
            rw [hE] at h
            refine ⟨_, rfl, rs, rfl, lcW_map (fun r => .bl (decide ((i : Int) ≤ repT r))) (fun r hr Kt hK => ?_) ⟨_, allD_of, _, rfl, ?_⟩⟩
            · exact ⟨_, rfl, _, (rep_house (hreps r hr)).2.2.2, _, rfl, _, geD_int, hK⟩
            · cases hC : rs.all fun r => decide ((i : Int) ≤ repT r) with
              | false => rw [hC] at h; exact h
              | true =>
                rw [hC, Bool.true_and] at h
                refine ⟨_, rfl, rs, rfl, ?_⟩
                refine forW_ind (I := fun rest r => ∃ pre x2 x3, rs = pre ++ rest ∧ (∀ one ∈ pre, (rs.all fun o => sentOk i one o) = true) ∧ r.sl = [.sh (.tup rs), .sh (.int i), x2, x3]) ?_ ?_ rs _ ⟨[], .un, .un, rfl, (fun z hz => by cases hz), rfl⟩
                · rintro ⟨sl, ew⟩ ⟨pre, x2, x3, e, hpre, hr⟩
                  rw [List.append_nil] at e
                  subst e
                  rw [List.all_eq_true.mpr hpre] at h
                  exact h
                · rintro one rest ⟨sl, ew⟩ nx ⟨pre, x2, x3, e, hpre, hr⟩ hnx
                  have hr : sl = _ := hr
                  subst hr
                  have hone : one ∈ rs := by rw [e]; simp
                  refine ⟨_, rfl, rs, rfl, ?_⟩
                  refine forW_ind (I := fun rest2 r => ∃ pre2 x3, rs = pre2 ++ rest2 ∧ (∀ o ∈ pre2, sentOk i one o = true) ∧ r.sl = [.sh (.tup rs), .sh (.int i), .sh one, x3]) ?_ ?_ rs _ ⟨[], x3, rfl, (fun z hz => by cases hz), rfl⟩
                  · rintro ⟨sl, ew⟩ ⟨pre2, x3, e2, hpre2, hr⟩
                    rw [List.append_nil] at e2
                    refine hnx _ ⟨pre ++ [one], .sh one, x3, by rw [e]; simp, fun z hz => ?_, hr⟩
                    rcases List.mem_append.mp hz with k3 | k3
                    · exact hpre z k3
                    · rw [List.mem_singleton.mp k3, List.all_eq_true]
                      rw [e2]
                      exact hpre2
                  · rintro o rest2 ⟨sl, ew⟩ nx2 ⟨pre2, x3, e2, hpre2, hr⟩ hnx2
                    have hr : sl = _ := hr
                    subst hr
                    have ho : o ∈ rs := by rw [e2]; simp
                    refine pair_ne (p := 2) (q := 3) (one := one) (other := o) (i := i) rfl rfl rfl (hreps _ hone) (hreps _ ho) hi ⟨_, rfl, ?_⟩
                    cases hS : sentOk i one o with
                    | true =>
                      refine hnx2 _ ⟨pre2 ++ [o], .sh o, by rw [e2]; simp, fun z hz => ?_, rfl⟩
                      rcases List.mem_append.mp hz with k3 | k3
                      · exact hpre2 z k3
                      · rw [List.mem_singleton.mp k3]; exact hS
                    | false =>
                      have : (rs.all fun r => rs.all fun o => sentOk i r o) = false := by
                        rw [List.all_eq_false]
                        refine ⟨one, hone, ?_⟩
                        rw [Bool.not_eq_true, List.all_eq_false]
                        exact ⟨o, ho, by rw [hS]; decide⟩
                      rw [this] at h
                      exact h
          | _ => cases hB
    | _ => cases hA
theorem W_shows_done (T : Tx K mg) : FnW P w K mg base 6 "shows_done" 2 S_shows_done := (w_shows_done T).imp (by decide) I_shows_done
theorem W_shows_done_k0 (T : Tx K mg) : FnKW P w K mg base 6 "shows_done" ["layer", "value"] [1, 0] 2 S_shows_done := (fnKW_of T.f_shows_done sc_shows_done (by decide) (fun _ _ _ _ _ _ ws hl => match ws, hl with | [_, _], _ => rfl) (d_shows_done T)).imp (by decide) I_shows_done
/-! ### _law_pick -/
abbrev N_law_pick : List Str := ["state", "several"]
theorem sc_law_pick : FnScope N_law_pick ["state", "several"] (defScope st_law_pick) := ⟨rfl, rfl, rfl, by decide +kernel, rfl, by decide +kernel, by decide +kernel⟩
def m_law_pick : WS := (sRet (eOp ixD (eVar 1) (eCall S_law_draw (aCons (eVar 0) (aCons (eCB lenD (aCons (eVar 1) aNil)) aNil)))))
theorem d_law_pick (T : Tx K mg) : DSs (gOf P w K mg base 2 N_law_pick st_law_pick false) (defBody st_law_pick) m_law_pick := (ds_one (ds_ret (de_ix (de_var 1) (de_call (W_law_draw T) (da_cons (de_var 0) (da_cons (de_cb (fun y ok => call_len) s_len T.b_len (da_cons (de_var 1) da_nil)) da_nil))))))
theorem w_law_pick (T : Tx K mg) : FnW P w K mg base 3 "_law_pick" 2 (fnF N_law_pick m_law_pick) := fnW_of T.f_law_pick sc_law_pick (by decide) (fun _ _ _ _ _ _ us hl => match us, hl with | [_, _], _ => rfl) (d_law_pick T)
theorem u_law_pick {d0 d1 : D} {R : D → Prop} : (fnF N_law_pick m_law_pick).f [d0, d1] R = m_law_pick.f { nx := fun _ => R .non, rt := R } ⟨[.sh d0, .sh d1], fun _ => False⟩ := rfl
def S_law_pick : WFn := ⟨fun ds R => ∃ xs, ds = [.st, .lst xs] ∧ 0 < xs.length ∧ xs.length < 2 ^ 30 ∧ ∀ d ∈ xs, R d, 1⟩
theorem I_law_pick : ∀ ds R, ds.length = 2 → S_law_pick.f ds R → (fnF N_law_pick m_law_pick).f ds R := by
  rintro _ R - ⟨xs, rfl, h0, h1, h⟩
  rw [u_law_pick]
  simp [m_law_pick, drawF]
  refine ⟨by omega, by omega, fun r r0 r1 => ?_⟩
  have hr : r.toNat < xs.length := by omega
  refine ⟨xs[r.toNat], ?_, h _ (List.getElem_mem hr)⟩
  have := atI_nat (xs := xs) (j := r.toNat) (List.getElem?_eq_getElem hr)
  rwa [Int.toNat_of_nonneg r0] at this
theorem W_law_pick (T : Tx K mg) : FnW P w K mg base 3 "_law_pick" 2 S_law_pick := (w_law_pick T).imp (by decide) I_law_pick
/-! ### _law_is_truth -/
abbrev N_law_is_truth : List Str := ["found", "due"]
theorem sc_law_is_truth : FnScope N_law_is_truth ["found", "due"] (defScope st_law_is_truth) := ⟨rfl, rfl, rfl, by decide +kernel, rfl, by decide +kernel, by decide +kernel⟩
def m_law_is_truth : WS := (sRet (eIf (tV (eVar 1)) (eOp isD (eVar 0) (eC (.bl true))) (eOp isD (eVar 0) (eC (.bl false)))))
theorem d_law_is_truth (T : Tx K mg) : DSs (gOf P w K mg base 0 N_law_is_truth st_law_is_truth false) (defBody st_law_is_truth) m_law_is_truth := (ds_one (ds_ret (de_if (dt_val (de_var 1)) (de_cmp (fun y ok => op_isA) s_is (de_var 0) de_bl) (de_cmp (fun y ok => op_isA) s_is (de_var 0) de_bl))))
theorem w_law_is_truth (T : Tx K mg) : FnW P w K mg base 1 "_law_is_truth" 2 (fnF N_law_is_truth m_law_is_truth) := fnW_of T.f_law_is_truth sc_law_is_truth (by decide) (fun _ _ _ _ _ _ us hl => match us, hl with | [_, _], _ => rfl) (d_law_is_truth T)
theorem u_law_is_truth {d0 d1 : D} {R : D → Prop} : (fnF N_law_is_truth m_law_is_truth).f [d0, d1] R = m_law_is_truth.f { nx := fun _ => R .non, rt := R } ⟨[.sh d0, .sh d1], fun _ => False⟩ := rfl
def S_law_is_truth : WFn := ⟨fun ds R => ∃ a b, ds = [.bl a, .bl b] ∧ R (.bl (a == b)), 0⟩
theorem I_law_is_truth : ∀ ds R, ds.length = 2 → S_law_is_truth.f ds R → (fnF N_law_is_truth m_law_is_truth).f ds R := by
  rintro _ R - ⟨a, b, rfl, h⟩
  rw [u_law_is_truth]
  cases a <;> cases b <;> simpa [m_law_is_truth, isD, isB] using h
theorem W_law_is_truth (T : Tx K mg) : FnW P w K mg base 1 "_law_is_truth" 2 S_law_is_truth := (w_law_is_truth T).imp (by decide) I_law_is_truth
/-! ### _law_is_whole -/
abbrev N_law_is_whole : List Str := ["item"]
theorem sc_law_is_whole : FnScope N_law_is_whole ["item"] (defScope st_law_is_whole) := ⟨rfl, rfl, rfl, by decide +kernel, rfl, by decide +kernel, by decide +kernel⟩
def m_law_is_whole : WS := (sRet (eAnd (eCB isi (aCons (eVar 0) (aCons (eC (.ty "int")) aNil))) (eNot (eCB isi (aCons (eVar 0) (aCons (eC (.ty "bool")) aNil))))))
theorem d_law_is_whole (T : Tx K mg) : DSs (gOf P w K mg base 0 N_law_is_whole st_law_is_whole false) (defBody st_law_is_whole) m_law_is_whole := (ds_one (ds_ret (de_and (de_cb (fun y ok => call_isi) s_isi T.b_isinstance (da_cons (de_var 0) (da_cons (de_bty T.b_int) da_nil))) (de_one (de_not (de_cb (fun y ok => call_isi) s_isi T.b_isinstance (da_cons (de_var 0) (da_cons (de_bty T.b_bool) da_nil))))))))
theorem w_law_is_whole (T : Tx K mg) : FnW P w K mg base 1 "_law_is_whole" 1 (fnF N_law_is_whole m_law_is_whole) := fnW_of T.f_law_is_whole sc_law_is_whole (by decide) (fun _ _ _ _ _ _ us hl => match us, hl with | [_], _ => rfl) (d_law_is_whole T)
theorem u_law_is_whole {d0 : D} {R : D → Prop} : (fnF N_law_is_whole m_law_is_whole).f [d0] R = m_law_is_whole.f { nx := fun _ => R .non, rt := R } ⟨[.sh d0], fun _ => False⟩ := rfl
def S_law_is_whole : WFn := ⟨fun ds R => ∃ n d, ds = [d] ∧ Pl n d = true ∧ R (.bl (isWh d)), 0⟩
theorem I_law_is_whole : ∀ ds R, ds.length = 1 → S_law_is_whole.f ds R → (fnF N_law_is_whole m_law_is_whole).f ds R := by
  rintro _ R - ⟨n, d, rfl, hp, h⟩
  rw [u_law_is_whole]
  simp [m_law_is_whole, isi_int hp, isi_bool hp]
  cases d <;> simp_all [isInt, isBl, isWh]
theorem W_law_is_whole (T : Tx K mg) : FnW P w K mg base 1 "_law_is_whole" 1 S_law_is_whole := (w_law_is_whole T).imp (by decide) I_law_is_whole
/-! ### _law_odd -/
abbrev N_law_odd : List Str := ["state"]
theorem sc_law_odd : FnScope N_law_odd ["state"] (defScope st_law_odd) := ⟨rfl, rfl, rfl, by decide +kernel, rfl, by decide +kernel, by decide +kernel⟩
def m_law_odd : WS := (sRet (eCall S_law_pick (aCons (eVar 0) (aCons (eLst (aCons (eC .non) (aCons (eC (.int 0)) (aCons (eUn negD (eC (.int 1))) (aCons (eC (.bl true)) (aCons (eC (.str "1")) (aCons (eC (.str "")) (aCons (eTup aNil) (aCons (eLst aNil) (aCons (eC (.dic [] [])) (aCons (eTup (aCons (eC (.int 1)) aNil)) (aCons (eTup (aCons (eTup (aCons (eC (.int 0)) aNil)) aNil)) (aCons (eTup (aCons (eC (.str "a")) aNil)) (aCons (eTup (aCons (eC (.str "a")) (aCons (eC (.str "a")) aNil))) (aCons (eOp powD (eC (.int 10)) (eC (.int 18))) aNil))))))))))))))) aNil))))
theorem d_law_odd (T : Tx K mg) : DSs (gOf P w K mg base 3 N_law_odd st_law_odd false) (defBody st_law_odd) m_law_odd := (ds_one (ds_ret (de_call (W_law_pick T) (da_cons (de_var 0) (da_cons (de_lst (da_cons de_non (da_cons de_int (da_cons (de_un (fun y ok => un_neg) s_neg de_int) (da_cons de_bl (da_cons de_str (da_cons de_str (da_cons (de_tup da_nil) (da_cons (de_lst da_nil) (da_cons de_dic0 (da_cons (de_tup (da_cons de_int da_nil)) (da_cons (de_tup (da_cons (de_tup (da_cons de_int da_nil)) da_nil)) (da_cons (de_tup (da_cons de_str da_nil)) (da_cons (de_tup (da_cons de_str (da_cons de_str da_nil))) (da_cons (de_op (fun y ok => op_pow) s_pow de_int de_int) da_nil))))))))))))))) da_nil)))))
theorem w_law_odd (T : Tx K mg) : FnW P w K mg base 4 "_law_odd" 1 (fnF N_law_odd m_law_odd) := fnW_of T.f_law_odd sc_law_odd (by decide) (fun _ _ _ _ _ _ us hl => match us, hl with | [_], _ => rfl) (d_law_odd T)
theorem u_law_odd {d0 : D} {R : D → Prop} : (fnF N_law_odd m_law_odd).f [d0] R = m_law_odd.f { nx := fun _ => R .non, rt := R } ⟨[.sh d0], fun _ => False⟩ := rfl
def S_law_odd : WFn := ⟨fun ds R => ds = [.st] ∧ ∀ d, Pl 2 d = true → R d, 1⟩
theorem I_law_odd : ∀ ds R, ds.length = 1 → S_law_odd.f ds R → (fnF N_law_odd m_law_odd).f ds R := by
  rintro _ R - ⟨rfl, h⟩
  have hs : 14 ≤ sizeLine := by rw [sizeLine_eq]; decide
  have h18 : powD (.int 10) (.int 18) = some (.int (10 ^ 18)) := by
    show (if CPow 10 18 then some (D.int (10 ^ (18 : Int).toNat)) else none) = _
    rw [if_pos pow18]; rfl
  have h1 : 1 ≤ sizeLine := by omega
  have h2 : 2 ≤ sizeLine := by omega
  rw [u_law_odd]
  simp [m_law_odd, S_law_pick, negD, h18, hs, h1, h2]
  refine ⟨?_, ?_, ?_, ?_, ?_, ?_, ?_, ?_, ?_, ?_, ?_, ?_, ?_, ?_⟩ <;> exact h _ (by decide +kernel)
theorem W_law_odd (T : Tx K mg) : FnW P w K mg base 4 "_law_odd" 1 S_law_odd := (w_law_odd T).imp (by decide) I_law_odd
/-! ### _law_bent -/
abbrev N_law_bent : List Str := ["state", "item", "at", "way"]
theorem sc_law_bent : FnScope N_law_bent ["state", "item"] (defScope st_law_bent) := ⟨rfl, rfl, rfl, by decide +kernel, rfl, by decide +kernel, by decide +kernel⟩
def m_law_bent (F : WFn) : WS := (sSeq (sIf (cOr (cNot (tV (eCB isi (aCons (eVar 1) (aCons (eC (.ty "tuple")) aNil))))) (cOr (tV (eOp eqD (eVar 1) (eTup aNil))) (tV (eOp eqD (eCall S_law_draw (aCons (eVar 0) (aCons (eC (.int 9)) aNil))) (eC (.int 0)))))) (sRet (eCall S_law_odd (aCons (eVar 0) aNil))) sNext) (sSeq (sPar 2 3 (aCons (eCall S_law_draw (aCons (eVar 0) (aCons (eCB lenD (aCons (eVar 1) aNil)) aNil))) (aCons (eCall S_law_draw (aCons (eVar 0) (aCons (eC (.int 8)) aNil))) aNil))) (sSeq (sIf (tV (eOp ltD (eVar 3) (eC (.int 4)))) (sRet (eOp addD (eOp addD (eSl (eVar 1) oNo (oYes (eVar 2))) (eTup (aCons (eCall F (aCons (eVar 0) (aCons (eOp ixD (eVar 1) (eVar 2)) aNil))) aNil))) (eSl (eVar 1) (oYes (eOp addD (eVar 2) (eC (.int 1)))) oNo))) sNext) (sSeq (sIf (tV (eOp eqD (eVar 3) (eC (.int 4)))) (sRet (eOp addD (eSl (eVar 1) oNo (oYes (eVar 2))) (eSl (eVar 1) (oYes (eOp addD (eVar 2) (eC (.int 1)))) oNo))) sNext) (sSeq (sIf (tV (eOp eqD (eVar 3) (eC (.int 5)))) (sRet (eOp addD (eOp addD (eSl (eVar 1) oNo (oYes (eVar 2))) (eSl (eVar 1) (oYes (eVar 2)) (oYes (eOp addD (eVar 2) (eC (.int 1)))))) (eSl (eVar 1) (oYes (eVar 2)) oNo))) sNext) (sSeq (sIf (cAnd (tV (eOp eqD (eVar 3) (eC (.int 6)))) (tV (eCall S_law_is_whole (aCons (eOp ixD (eVar 1) (eVar 2)) aNil)))) (sRet (eOp addD (eOp addD (eSl (eVar 1) oNo (oYes (eVar 2))) (eTup (aCons (eOp addD (eOp ixD (eVar 1) (eVar 2)) (eCall S_law_pick (aCons (eVar 0) (aCons (eLst (aCons (eC (.int 1)) (aCons (eUn negD (eC (.int 1))) aNil))) aNil)))) aNil))) (eSl (eVar 1) (oYes (eOp addD (eVar 2) (eC (.int 1)))) oNo))) sNext) (sRet (eIf (tV (eOp eqD (eVar 3) (eC (.int 7)))) (eRev (eVar 1)) (eCB toL (aCons (eVar 1) aNil))))))))))
theorem d_law_bent (T : Tx K mg) {F : WFn} {j k : Nat} (hF : FnW P w K mg base j "_law_bent" 2 F) (hk : 4 ≤ k) (hj : j ≤ k) : DSs (gOf P w K mg base k N_law_bent st_law_bent false) (defBody st_law_bent) (m_law_bent F) := (ds_cons (ds_if (dt_w (dw_or (dt_not (dt_val (de_cb (fun y ok => call_isi) s_isi T.b_isinstance (da_cons (de_var 1) (da_cons (de_bty T.b_tuple) da_nil))))) (dw_or (dt_cmp (fun y ok => op_eqA ok.room.units) s_eq (de_var 1) (de_tup da_nil)) (dw_or1 (dt_cmp (fun y ok => op_eqA ok.room.units) s_eq (de_call (W_law_draw T) (da_cons (de_var 0) (da_cons de_int da_nil)) (hj := Nat.le_trans (Nat.le_of_ble_eq_true rfl) hk)) de_int))))) (ds_one (ds_ret (de_call (W_law_odd T) (da_cons (de_var 0) da_nil) (hj := Nat.le_trans (Nat.le_of_ble_eq_true rfl) hk)))) ds_nil) (ds_cons (ds_par 2 3 (da_cons (de_call (W_law_draw T) (da_cons (de_var 0) (da_cons (de_cb (fun y ok => call_len) s_len T.b_len (da_cons (de_var 1) da_nil)) da_nil)) (hj := Nat.le_trans (Nat.le_of_ble_eq_true rfl) hk)) (da_cons (de_call (W_law_draw T) (da_cons (de_var 0) (da_cons de_int da_nil)) (hj := Nat.le_trans (Nat.le_of_ble_eq_true rfl) hk)) da_nil))) (ds_cons (ds_if (dt_cmp (fun y ok => op_lt) s_lt (de_var 3) de_int) (ds_one (ds_ret (de_op (fun y ok => op_addA) s_add (de_op (fun y ok => op_addA) s_add (de_sl (de_var 1) do_none (do_some (de_var 2))) (de_tup (da_cons (de_call hF (da_cons (de_var 0) (da_cons (de_ix (de_var 1) (de_var 2)) da_nil)) (hj := hj)) da_nil))) (de_sl (de_var 1) (do_some (de_op (fun y ok => op_addA) s_add (de_var 2) de_int)) do_none)))) ds_nil) (ds_cons (ds_if (dt_cmp (fun y ok => op_eqA ok.room.units) s_eq (de_var 3) de_int) (ds_one (ds_ret (de_op (fun y ok => op_addA) s_add (de_sl (de_var 1) do_none (do_some (de_var 2))) (de_sl (de_var 1) (do_some (de_op (fun y ok => op_addA) s_add (de_var 2) de_int)) do_none)))) ds_nil) (ds_cons (ds_if (dt_cmp (fun y ok => op_eqA ok.room.units) s_eq (de_var 3) de_int) (ds_one (ds_ret (de_op (fun y ok => op_addA) s_add (de_op (fun y ok => op_addA) s_add (de_sl (de_var 1) do_none (do_some (de_var 2))) (de_sl (de_var 1) (do_some (de_var 2)) (do_some (de_op (fun y ok => op_addA) s_add (de_var 2) de_int)))) (de_sl (de_var 1) (do_some (de_var 2)) do_none)))) ds_nil) (ds_cons (ds_if (dt_w (dw_and (dt_cmp (fun y ok => op_eqA ok.room.units) s_eq (de_var 3) de_int) (dw_and1 (dt_val (de_call (W_law_is_whole T) (da_cons (de_ix (de_var 1) (de_var 2)) da_nil) (hj := Nat.le_trans (Nat.le_of_ble_eq_true rfl) hk)))))) (ds_one (ds_ret (de_op (fun y ok => op_addA) s_add (de_op (fun y ok => op_addA) s_add (de_sl (de_var 1) do_none (do_some (de_var 2))) (de_tup (da_cons (de_op (fun y ok => op_addA) s_add (de_ix (de_var 1) (de_var 2)) (de_call (W_law_pick T) (da_cons (de_var 0) (da_cons (de_lst (da_cons de_int (da_cons (de_un (fun y ok => un_neg) s_neg de_int) da_nil))) da_nil)) (hj := Nat.le_trans (Nat.le_of_ble_eq_true rfl) hk))) da_nil))) (de_sl (de_var 1) (do_some (de_op (fun y ok => op_addA) s_add (de_var 2) de_int)) do_none)))) ds_nil) (ds_one (ds_ret (de_if (dt_cmp (fun y ok => op_eqA ok.room.units) s_eq (de_var 3) de_int) (de_rev (de_var 1)) (de_ct (fun y ok => call_list_of) s_toL T.b_list (da_cons (de_var 1) da_nil)))))))))))
theorem v_law_bent (T : Tx K mg) : FnW P w K mg base 1 "_law_bent" 2 ⟨fun _ _ => False, 0⟩ := fnW_void T.f_law_bent sc_law_bent (by decide) (fun _ _ _ _ _ _ us hl => match us, hl with | [_, _], _ => rfl)
theorem u_law_bent {F : WFn} {d0 d1 : D} {R : D → Prop} : (fnF N_law_bent (m_law_bent F)).f [d0, d1] R = (m_law_bent F).f { nx := fun _ => R .non, rt := R } ⟨[.sh d0, .sh d1, .un, .un], fun _ => False⟩ := rfl
mutual
def dep : D → Nat
  | .tup ds => depL ds + 1
  | _ => 0
def depL : List D → Nat
  | [] => 0
  | d :: ds => max (dep d) (depL ds)
end
theorem depL_mem : ∀ {ds : List D} {d : D}, d ∈ ds → dep d ≤ depL ds
  | e :: ds, d, h => by
    simp only [depL]
    rcases List.mem_cons.mp h with z | z
    · rw [z]; exact Nat.le_max_left _ _
    · exact Nat.le_trans (depL_mem z) (Nat.le_max_right _ _)
def Sn_law_bent : Nat → WFn
  | 0 => ⟨fun _ _ => False, 0⟩
  | n + 1 => ⟨fun ds R => ∃ d, ds = [.st, d] ∧ Pl 100 d = true ∧ dep d ≤ n ∧ ∀ d', Pl 101 d' = true → R d', 8 * (n + 1)⟩
theorem C_law_bent (n : Nat) : (fnF N_law_bent (m_law_bent (Sn_law_bent n))).n ≤ (Sn_law_bent (n + 1)).n := by
  have e : (fnF N_law_bent (m_law_bent (Sn_law_bent n))).n = 5 + (Sn_law_bent n).n := by
    simp [fnF, m_law_bent, sSeq, sIf, cOr, cNot, tV, eCB, aCons, aNil, eVar, eC, eOp, eTup, eCall, drawF, sRet, sNext, sPar, eSl, oNo, oYes, cAnd, eLst, eUn, eIf, eRev, S_law_odd, S_law_pick, S_law_is_whole]
    omega
  rw [e]
  cases n <;> simp [Sn_law_bent] <;> omega
theorem I_law_bent (n : Nat) : ∀ ds R, ds.length = 2 → (Sn_law_bent (n + 1)).f ds R → (fnF N_law_bent (m_law_bent (Sn_law_bent n))).f ds R := by
  rintro _ R - ⟨d, rfl, hp, hd, h⟩
  have odd : S_law_odd.f [.st] R := ⟨rfl, fun e he => h e (Pl_mono (by decide) he)⟩
  refine ⟨d, rfl, _, isi_tuple hp, _, rfl, ?_⟩
  cases d with
  | tup xs =>
    obtain ⟨hl, hx⟩ := Pl_tup.mp hp
    refine ⟨_, rfl, by decide, _, eqD_nil xs, _, rfl, ?_⟩
    cases xs with
    | nil => exact ⟨_, rfl, odd⟩
    | cons x0 xs0 =>
      generalize hxs : x0 :: xs0 = xs at *
      have h0 : 0 < xs.length := by rw [← hxs]; exact Nat.succ_pos _
      have he : xs.isEmpty = false := by rw [← hxs]; rfl
      rw [he]
      refine ⟨_, rfl, 9, rfl, by decide, by decide, fun r r0 r1 => ⟨_, eqD_int r 0, _, rfl, ?_⟩⟩
      by_cases hz : r = 0
      · rw [decide_eq_true hz]
        exact ⟨_, rfl, odd⟩
      rw [decide_eq_false hz]
      refine ⟨_, rfl, _, rfl, _, lenD_tup, xs.length, rfl, by omega, by omega, fun at_ a0 a1 => ⟨_, rfl, 8, rfl, by decide, by decide, fun way w0 w1 => ⟨_, _, rfl, ?_⟩⟩⟩
      obtain ⟨a, rfl⟩ : ∃ a : Nat, at_ = a := ⟨at_.toNat, by omega⟩
      have ha : a < xs.length := by omega
      have hs : 2000 ≤ sizeLine := by rw [sizeLine_eq]; decide
      have fin : ∀ zs : List D, zs.length ≤ 101 → (∀ z ∈ zs, Pl 101 z = true) → R (.tup zs) := fun zs h1 h2 => h _ (Pl_tup.mpr ⟨h1, h2⟩)
      have hx' : ∀ z ∈ xs, Pl 101 z = true := fun z hz => Pl_mono (by decide) (hx z hz)
      have cF : slD (.tup xs) none (some (a : Int)) = some (.tup (xs.take a)) := by show some (D.tup (cutL xs none (some (a : Int)))) = _; rw [cut_to]
      have cB : slD (.tup xs) (some (a : Int)) none = some (.tup (xs.drop a)) := by show some (D.tup (cutL xs (some (a : Int)) none)) = _; rw [cut_from]
      have cB1 : slD (.tup xs) (some ((a : Int) + 1)) none = some (.tup (xs.drop (a + 1))) := by
        show some (D.tup (cutL xs (some (((a + 1 : Nat)) : Int)) none)) = _; rw [cut_from]
      have cM : slD (.tup xs) (some (a : Int)) (some ((a : Int) + 1)) = some (.tup ((xs.drop a).take 1)) := by
        show some (D.tup (cutL xs (some (a : Int)) (some (((a + 1 : Nat)) : Int)))) = _
        rw [cut_mid xs a (a + 1) (by omega) (by omega), show a + 1 - a = 1 by omega]
      have lF : (xs.take a).length = a := by rw [List.length_take]; omega
      have lB : (xs.drop a).length = xs.length - a := List.length_drop
      have lB1 : (xs.drop (a + 1)).length = xs.length - (a + 1) := List.length_drop
      have lM : ((xs.drop a).take 1).length ≤ 1 := by rw [List.length_take]; omega
      have hy : atI xs (a : Int) = some xs[a] := atI_nat (List.getElem?_eq_getElem ha)
      refine ⟨_, rfl, _, rfl, _, rfl, ite2 (fun _ => ?_) (fun _ => ?_)⟩
      · -- way < 4
        refine ⟨_, rfl, _, rfl, _, rfl, _, cF, _, rfl, _, rfl, _, rfl, _, hy, ?_⟩
        cases n with
        | zero => simp [dep] at hd
        | succ n =>
          have hd' : depL xs ≤ n := by simpa [dep] using hd
          refine ⟨_, rfl, hx _ (List.getElem_mem ha), Nat.le_trans (depL_mem (List.getElem_mem ha)) hd', fun e he => ⟨by show 1 ≤ sizeLine; omega, _, addD_tup (by rw [lF]; show a + 1 ≤ _; omega), _, rfl, _, rfl, _, rfl, _, rfl, _, cB1, _, addD_tup (by rw [List.length_append, lF, lB1]; show a + 1 + _ ≤ _; omega), fin _ ?_ ?_⟩⟩
          · rw [List.length_append, List.length_append, lF, lB1]; show a + 1 + _ ≤ _; omega
          · intro z hz
            simp only [List.mem_append, List.mem_singleton] at hz
            rcases hz with (hz | hz) | hz
            · exact hx' z (List.mem_of_mem_take hz)
            · rw [hz]; exact he
            · exact hx' z (List.mem_of_mem_drop hz)
      refine ⟨_, rfl, _, eqD_int way 4, _, rfl, ite2 (fun _ => ?_) (fun _ => ?_)⟩
      · refine ⟨_, rfl, _, rfl, _, rfl, _, cF, _, rfl, _, rfl, _, rfl, _, rfl, _, cB1, _, addD_tup (by rw [lF, lB1]; omega), fin _ ?_ ?_⟩
        · rw [List.length_append, lF, lB1]; omega
        · intro z hz
          simp only [List.mem_append] at hz
          rcases hz with hz | hz
          · exact hx' z (List.mem_of_mem_take hz)
          · exact hx' z (List.mem_of_mem_drop hz)
      refine ⟨_, rfl, _, eqD_int way 5, _, rfl, ite2 (fun _ => ?_) (fun _ => ?_)⟩
      · refine ⟨_, rfl, _, rfl, _, rfl, _, cF, _, rfl, _, rfl, _, rfl, _, rfl, _, rfl, _, rfl, _, cM, _, addD_tup (by rw [lF]; omega), _, rfl, _, rfl, _, rfl, _, cB, _, addD_tup (by rw [List.length_append, lF, lB]; omega), fin _ ?_ ?_⟩
        · rw [List.length_append, List.length_append, lF, lB]; omega
        · intro z hz
          simp only [List.mem_append] at hz
          rcases hz with (hz | hz) | hz
          · exact hx' z (List.mem_of_mem_take hz)
          · exact hx' z (List.mem_of_mem_drop (List.mem_of_mem_take hz))
          · exact hx' z (List.mem_of_mem_drop hz)
      have tail : (sRet (eIf (tV (eOp eqD (eVar 3) (eC (.int 7)))) (eRev (eVar 1)) (eCB toL (aCons (eVar 1) aNil)))).f { nx := fun _ => R .non, rt := R } ⟨[.sh .st, .sh (.tup xs), .sh (.int a), .sh (.int way)], fun _ => False⟩ := by
        refine ⟨_, rfl, _, eqD_int way 7, _, rfl, ite2 (fun _ => ⟨_, rfl, _, rfl, fin _ ?_ ?_⟩) (fun _ => ⟨_, rfl, _, rfl, h _ (Pl_lst.mpr ⟨by omega, hx'⟩)⟩)⟩
        · rw [List.length_reverse]; omega
        · intro z hz; exact hx' z (List.mem_reverse.mp hz)
      refine ⟨_, rfl, _, eqD_int way 6, _, rfl, ite2 (fun _ => ?_) (fun _ => tail)⟩
      refine ⟨_, rfl, _, rfl, _, hy, 100, _, rfl, hx _ (List.getElem_mem ha), _, rfl, ite2 (fun hw => ?_) (fun _ => tail)⟩
      have hi : ∃ i, xs[a] = .int i := by
        cases e : xs[a] with
        | int i => exact ⟨i, rfl⟩
        | _ => rw [e] at hw; cases hw
      obtain ⟨i, hi⟩ := hi
      rw [hi] at hy
      refine ⟨_, rfl, _, rfl, _, rfl, _, cF, _, rfl, _, rfl, _, hy, _, rfl, _, rfl, by show 2 ≤ sizeLine; omega, [.int 1, .int (-1)], rfl, by decide, by decide, fun e he => ?_⟩
      have he : ∃ j, e = .int j := by
        rcases List.mem_cons.mp he with z | z
        · exact ⟨1, z⟩
        · exact ⟨-1, List.mem_singleton.mp z⟩
      obtain ⟨j, rfl⟩ := he
      refine ⟨_, addD_int, by show 1 ≤ sizeLine; omega, _, addD_tup (by rw [lF]; show a + 1 ≤ _; omega), _, rfl, _, rfl, _, rfl, _, rfl, _, cB1, _, addD_tup (by rw [List.length_append, lF, lB1]; show a + 1 + _ ≤ _; omega), fin _ ?_ ?_⟩
      · rw [List.length_append, List.length_append, lF, lB1]; show a + 1 + _ ≤ _; omega
      · intro z hz
        simp only [List.mem_append, List.mem_singleton] at hz
        rcases hz with (hz | hz) | hz
        · exact hx' z (List.mem_of_mem_take hz)
        · rw [hz]; rfl
        · exact hx' z (List.mem_of_mem_drop hz)
  | _ => exact ⟨_, rfl, odd⟩
theorem Wn_law_bent (T : Tx K mg) : ∀ n, FnW P w K mg base (5 + n) "_law_bent" 2 (Sn_law_bent n)
  | 0 => (v_law_bent T).mono (by omega)
  | n + 1 => (fnW_of (k := 5 + n) T.f_law_bent sc_law_bent (by decide) (fun _ _ _ _ _ _ us hl => match us, hl with | [_, _], _ => rfl) (d_law_bent T (Wn_law_bent T n) (by omega) (Nat.le_refl _))).imp (C_law_bent n) (I_law_bent n)
abbrev S_law_bent : WFn := Sn_law_bent 8
theorem W_law_bent (T : Tx K mg) : FnW P w K mg base 13 "_law_bent" 2 S_law_bent := Wn_law_bent T 8
/-! ### _law_ho_shown -/
abbrev N_law_ho_shown : List Str := ["reports", "layer", "pairs", "one", "report", "other"]
theorem sc_law_ho_shown : FnScope N_law_ho_shown ["reports", "layer"] (defScope st_law_ho_shown) := ⟨rfl, rfl, rfl, by decide +kernel, rfl, by decide +kernel, by decide +kernel⟩
def m_law_ho_shown : WS := (sSeq (sIf (tV (eOp neD (eLc (iSeq (eVar 0)) (gN 4) (cOr (tV (eOp isD (eVar 4) (eC .non))) (tV (eOp ltD (eOp ixD (eVar 4) (eC (.int 2))) (eVar 1)))) (eVar 4) [4]) (eLst aNil))) (sRet (eC (.bl false))) sNext) (sSeq (sSet 2 (eLst aNil)) (sSeq (sFor (iSeq (eVar 0)) (gN 3) (sSet 2 (eOp addD (eVar 2) (eLc (iSeq (eVar 0)) (gN 5) cYes (eTup (aCons (eVar 3) (aCons (eVar 5) aNil))) [5])))) (sRet (eOp eqD (eLc (iSeq (eVar 2)) (gP 3 5) (tV (eOp neD (eOp ixD (eOp ixD (eOp ixD (eOp ixD (eVar 3) (eC (.int 3))) (eVar 1)) (eC (.int 0))) (eOp ixD (eVar 5) (eC (.int 0)))) (eOp ixD (eOp ixD (eOp ixD (eOp ixD (eVar 5) (eC (.int 3))) (eVar 1)) (eC (.int 1))) (eOp ixD (eVar 3) (eC (.int 0)))))) (eC (.int 1)) [3, 5]) (eLst aNil))))))
theorem d_law_ho_shown (T : Tx K mg) : DSs (gOf P w K mg base 0 N_law_ho_shown st_law_ho_shown false) (defBody st_law_ho_shown) m_law_ho_shown := (ds_cons (ds_if (dt_cmp (fun y ok => op_neA ok.room.units) s_ne (de_lc [("report", 4)] (di_seq (de_var 0)) (by first | exact blk_of (by decide +kernel) | exact blk_of2 (by decide +kernel)) (dg_name 4) (dts_one (dt_w (dw_or (dt_cmp (fun y ok => op_isA) s_is (de_var 4) de_non) (dw_or1 (dt_cmp (fun y ok => op_lt) s_lt (de_ix (de_var 4) de_int) (de_var 1)))))) (de_var 4)) (de_lst da_nil)) (ds_one (ds_ret de_bl)) ds_nil) (ds_cons (ds_set 2 (de_lst da_nil)) (ds_cons (ds_for (di_seq (de_var 0)) (dg_name 3) (ds_one (ds_set 2 (de_op (fun y ok => op_addA) s_add (de_var 2) (de_lc [("other", 5)] (di_seq (de_var 0)) (by first | exact blk_of (by decide +kernel) | exact blk_of2 (by decide +kernel)) (dg_name 5) dts_nil (de_tup (da_cons (de_var 3) (da_cons (de_var 5) da_nil)))))))) (ds_one (ds_ret (de_cmp (fun y ok => op_eqA ok.room.units) s_eq (de_lc [("one", 3), ("other", 5)] (di_seq (de_var 2)) (by first | exact blk_of (by decide +kernel) | exact blk_of2 (by decide +kernel)) (dg_pair 3 5) (dts_one (dt_cmp (fun y ok => op_neA ok.room.units) s_ne (de_ix (de_ix (de_ix (de_ix (de_var 3) de_int) (de_var 1)) de_int) (de_ix (de_var 5) de_int)) (de_ix (de_ix (de_ix (de_ix (de_var 5) de_int) (de_var 1)) de_int) (de_ix (de_var 3) de_int)))) de_int) (de_lst da_nil)))))))
theorem w_law_ho_shown (T : Tx K mg) : FnW P w K mg base 1 "_law_ho_shown" 2 (fnF N_law_ho_shown m_law_ho_shown) := fnW_of T.f_law_ho_shown sc_law_ho_shown (by decide) (fun _ _ _ _ _ _ us hl => match us, hl with | [_, _], _ => rfl) (d_law_ho_shown T)
theorem u_law_ho_shown {d0 d1 : D} {R : D → Prop} : (fnF N_law_ho_shown m_law_ho_shown).f [d0, d1] R = m_law_ho_shown.f { nx := fun _ => R .non, rt := R } ⟨[.sh d0, .sh d1, .un, .un, .un, .un], fun _ => False⟩ := rfl
def S_law_ho_shown : WFn := ⟨fun ds R => ∃ (rs : List D) (i : Nat) (L M : Nat), ds = [.tup rs, .int i] ∧ rs.length ≤ 1000 ∧ i < L ∧ (∀ r ∈ rs, Rep L M r) ∧ R (.bl (rs.all (fun r => decide ((i : Int) ≤ repT r)) && rs.all fun r => rs.all fun o => sentOk i r o)), 0⟩
theorem flat_len (rs pre : List D) : (pre.flatMap fun one => rs.map fun o => D.tup [one, o]).length = pre.length * rs.length := by
  induction pre with
  | nil => simp
  | cons p pre ih => rw [List.flatMap_cons, List.length_append, ih, List.length_map, List.length_cons, Nat.succ_mul, Nat.add_comm]
theorem I_law_ho_shown : ∀ ds R, ds.length = 2 → S_law_ho_shown.f ds R → (fnF N_law_ho_shown m_law_ho_shown).f ds R := by
  rintro _ R - ⟨rs, i, L, M, rfl, hlen, hi, hreps, h⟩
  have hs : 4096 * 4096 ≤ sizeLine := by rw [sizeLine_eq]; decide
  refine ⟨_, rfl, rs, rfl, lcW_of (fun r => decide (repT r < (i : Int))) id (fun r hr Kt Kf k1 k2 => ?_) ⟨by show 0 ≤ sizeLine; omega, _, neD_nilL _, _, rfl, ?_⟩⟩
  · have e2 := (rep_house (hreps r hr)).2.2.2
    have hnon : isD r .non = some (.bl false) := by obtain ⟨a, b, c, rows, rfl, _⟩ := (hreps r hr).ex; rfl
    refine ⟨_, rfl, _, hnon, _, rfl, _, rfl, _, e2, _, rfl, _, ltD_int, _, rfl, ?_⟩
    cases hd : decide (repT r < (i : Int)) with
    | true => exact ⟨_, rfl, k1 hd⟩
    | false => exact k2 hd
  · rw [List.nil_append, none_left]
    have e1 : (rs.all fun r => !decide (repT r < (i : Int))) = rs.all fun r => decide ((i : Int) ≤ repT r) := by
      congr 1
      funext r
      rw [Bool.eq_iff_iff]
      simp
    rw [e1]
    cases hC : rs.all fun r => decide ((i : Int) ≤ repT r) with
    | false => rw [hC] at h; exact h
    | true =>
      rw [hC, Bool.true_and] at h
      refine ⟨by show 0 ≤ sizeLine; omega, _, rfl, rs, rfl, ?_⟩
      refine forW_ind (I := fun rest r => ∃ pre x3 x4 x5, rs = pre ++ rest ∧ r.sl = [.sh (.tup rs), .sh (.int i), .sh (.lst (pre.flatMap fun one => rs.map fun o => D.tup [one, o])), x3, x4, x5]) ?_ ?_ rs _ ⟨[], .un, .un, .un, rfl, rfl⟩
      · rintro ⟨sl, ew⟩ ⟨pre, x3, x4, x5, e, hr⟩
        have hr : sl = _ := hr
        subst hr
        rw [List.append_nil] at e
        subst e
        refine ⟨_, rfl, _, rfl, lcW_of (fun d => match d with | .tup [a, b] => !sentOk i a b | _ => false) (fun _ => .int 1) (fun d hd Kt Kf k1 k2 => ?_) ⟨by show 0 ≤ sizeLine; omega, _, eqD_nilL _, ?_⟩⟩
        · obtain ⟨one, h1, h2⟩ := List.mem_flatMap.mp hd
          obtain ⟨o, h3, rfl⟩ := List.mem_map.mp h2
          refine ⟨one, o, rfl, ?_⟩
          refine pair_ne (p := 3) (q := 5) (one := one) (other := o) (i := i) rfl rfl rfl (hreps _ h1) (hreps _ h3) hi ⟨_, rfl, ?_⟩
          have k1 : (!sentOk i one o) = true → Kt (.int 1) := k1
          have k2 : (!sentOk i one o) = false → Kf := k2
          cases hS : sentOk i one o with
          | true => exact k2 (by rw [hS]; rfl)
          | false => exact k1 (by rw [hS]; rfl)
        · rw [List.nil_append, none_left, List.all_flatMap]
          have e2 : (rs.all fun x => (rs.map fun o => D.tup [x, o]).all fun d => !(match d with | .tup [a, b] => !sentOk i a b | _ => false)) = rs.all fun r => rs.all fun o => sentOk i r o := by
            congr 1
            funext x
            rw [List.all_map]
            congr 1
            funext o
            show (!(!sentOk i x o)) = _
            rw [Bool.not_not]
          rw [e2]
          exact h
      · rintro one rest ⟨sl, ew⟩ nx ⟨pre, x3, x4, x5, e, hr⟩ hnx
        have hr : sl = _ := hr
        subst hr
        have hpl : pre.length + 1 ≤ rs.length := by rw [e, List.length_append, List.length_cons]; omega
        have hmul : pre.length * rs.length + rs.length ≤ sizeLine := by
          have : (pre.length + 1) * rs.length ≤ 1000 * 1000 := Nat.mul_le_mul (by omega) hlen
          rw [Nat.succ_mul] at this
          omega
        refine ⟨_, rfl, _, rfl, rs, rfl, lcW_map (fun o => .tup [one, o]) (fun o ho Kt hK => ⟨_, rfl, _, rfl, by show 2 ≤ sizeLine; omega, hK⟩) ⟨_, addD_lst (by rw [flat_len, List.nil_append, List.length_map]; exact hmul), ?_⟩⟩
        refine hnx _ ⟨pre ++ [one], .sh one, x4, x5, by rw [e]; simp, ?_⟩
        rw [List.flatMap_append, List.flatMap_cons, List.flatMap_nil, List.append_nil]
        rfl
theorem W_law_ho_shown (T : Tx K mg) : FnW P w K mg base 1 "_law_ho_shown" 2 S_law_ho_shown := (w_law_ho_shown T).imp (by decide) I_law_ho_shown
/-! ### _law_k79_small -/
abbrev N_law_k79_small : List Str := ["value", "most"]
theorem sc_law_k79_small : FnScope N_law_k79_small ["value", "most"] (defScope st_law_k79_small) := ⟨rfl, rfl, rfl, by decide +kernel, rfl, by decide +kernel, by decide +kernel⟩
def m_law_k79_small : WS := (sRet (eAnd (eCall S_law_is_whole (aCons (eVar 0) aNil)) (eCh leD leD (eC (.int 0)) (eVar 0) (eVar 1))))
theorem d_law_k79_small (T : Tx K mg) : DSs (gOf P w K mg base 1 N_law_k79_small st_law_k79_small false) (defBody st_law_k79_small) m_law_k79_small := (ds_one (ds_ret (de_and (de_call (W_law_is_whole T) (da_cons (de_var 0) da_nil)) (de_one (de_ch (fun y ok => op_le) s_le (fun y ok => op_le) s_le de_int (de_var 0) (de_var 1))))))
theorem w_law_k79_small (T : Tx K mg) : FnW P w K mg base 2 "_law_k79_small" 2 (fnF N_law_k79_small m_law_k79_small) := fnW_of T.f_law_k79_small sc_law_k79_small (by decide) (fun _ _ _ _ _ _ us hl => match us, hl with | [_, _], _ => rfl) (d_law_k79_small T)
theorem u_law_k79_small {d0 d1 : D} {R : D → Prop} : (fnF N_law_k79_small m_law_k79_small).f [d0, d1] R = m_law_k79_small.f { nx := fun _ => R .non, rt := R } ⟨[.sh d0, .sh d1], fun _ => False⟩ := rfl
def S_law_k79_small : WFn := ⟨fun ds R => ∃ n d b, ds = [d, .int b] ∧ Pl n d = true ∧ R (.bl (num d 0 b)), 0⟩
theorem I_law_k79_small : ∀ ds R, ds.length = 2 → S_law_k79_small.f ds R → (fnF N_law_k79_small m_law_k79_small).f ds R := by
  rintro _ R - ⟨n, d, b, rfl, hp, h⟩
  rw [u_law_k79_small]
  simp [m_law_k79_small, S_law_is_whole]
  refine ⟨⟨n, hp⟩, ?_⟩
  cases d <;> simp_all [isWh, num, leD, i2]
  rename_i i
  by_cases h1 : 0 ≤ i
  · exact .inr ⟨h1, by simpa [h1] using h⟩
  · exact .inl ⟨by omega, by simpa [h1] using h⟩
theorem W_law_k79_small (T : Tx K mg) : FnW P w K mg base 2 "_law_k79_small" 2 S_law_k79_small := (w_law_k79_small T).imp (by decide) I_law_k79_small
/-! ### _law_k79_is -/
abbrev N_law_k79_is : List Str := ["value", "row", "side", "many", "one"]
theorem sc_law_k79_is : FnScope N_law_k79_is ["value"] (defScope st_law_k79_is) := ⟨rfl, rfl, rfl, by decide +kernel, rfl, by decide +kernel, by decide +kernel⟩
def m_law_k79_is : WS := (sSeq (sIf (cOr (cNot (tV (eCB isi (aCons (eVar 0) (aCons (eC (.ty "tuple")) aNil))))) (cOr (tV (eOp neD (eCB lenD (aCons (eVar 0) aNil)) (eC (.int 4)))) (cOr (cNot (tV (eCB isi (aCons (eOp ixD (eVar 0) (eC (.int 3))) (aCons (eC (.ty "tuple")) aNil))))) (tV (eOp eqD (eOp ixD (eVar 0) (eC (.int 3))) (eTup aNil)))))) (sRet (eC (.bl false))) sNext) (sSeq (sFor (iSeq (eOp ixD (eVar 0) (eC (.int 3)))) (gN 1) (sSeq (sIf (cOr (cNot (tV (eCB isi (aCons (eVar 1) (aCons (eC (.ty "tuple")) aNil))))) (cOr (tV (eOp neD (eCB lenD (aCons (eVar 1) aNil)) (eC (.int 2)))) (cOr (cNot (tV (eCB isi (aCons (eOp ixD (eVar 1) (eC (.int 0))) (aCons (eC (.ty "tuple")) aNil))))) (cNot (tV (eCB isi (aCons (eOp ixD (eVar 1) (eC (.int 1))) (aCons (eC (.ty "tuple")) aNil)))))))) (sRet (eC (.bl false))) sNext) (sFor (iSeq (eVar 1)) (gN 2) (sIf (cOr (tV (eOp neD (eCB lenD (aCons (eVar 2) aNil)) (eCB lenD (aCons (eOp ixD (eOp ixD (eOp ixD (eVar 0) (eC (.int 3))) (eC (.int 0))) (eC (.int 0))) aNil)))) (cOr (cNot (tV (eCh leD leD (eC (.int 1)) (eCB lenD (aCons (eVar 2) aNil)) (eC (.int 5))))) (tV (eOp neD (eLc (iSeq (eVar 2)) (gN 4) (cNot (tV (eCall S_law_k79_small (aCons (eVar 4) (aCons (eOp powD (eC (.int 10)) (eC (.int 6))) aNil))))) (eC (.int 1)) [4]) (eLst aNil))))) (sRet (eC (.bl false))) sNext)))) (sSeq (sSet 3 (eCB lenD (aCons (eOp ixD (eOp ixD (eOp ixD (eVar 0) (eC (.int 3))) (eC (.int 0))) (eC (.int 0))) aNil))) (sRet (eAnd (eCall S_law_k79_small (aCons (eOp ixD (eVar 0) (eC (.int 0))) (aCons (eOp subD (eVar 3) (eC (.int 1))) aNil))) (eAnd (eCall S_law_k79_small (aCons (eOp ixD (eVar 0) (eC (.int 1))) (aCons (eOp powD (eC (.int 10)) (eC (.int 6))) aNil))) (eCall S_law_k79_small (aCons (eOp ixD (eVar 0) (eC (.int 2))) (aCons (eCB lenD (aCons (eOp ixD (eVar 0) (eC (.int 3))) aNil)) aNil)))))))))
theorem d_law_k79_is (T : Tx K mg) : DSs (gOf P w K mg base 2 N_law_k79_is st_law_k79_is false) (defBody st_law_k79_is) m_law_k79_is := (ds_cons (ds_if (dt_w (dw_or (dt_not (dt_val (de_cb (fun y ok => call_isi) s_isi T.b_isinstance (da_cons (de_var 0) (da_cons (de_bty T.b_tuple) da_nil))))) (dw_or (dt_cmp (fun y ok => op_neA ok.room.units) s_ne (de_cb (fun y ok => call_len) s_len T.b_len (da_cons (de_var 0) da_nil)) de_int) (dw_or (dt_not (dt_val (de_cb (fun y ok => call_isi) s_isi T.b_isinstance (da_cons (de_ix (de_var 0) de_int) (da_cons (de_bty T.b_tuple) da_nil))))) (dw_or1 (dt_cmp (fun y ok => op_eqA ok.room.units) s_eq (de_ix (de_var 0) de_int) (de_tup da_nil))))))) (ds_one (ds_ret de_bl)) ds_nil) (ds_cons (ds_for (di_seq (de_ix (de_var 0) de_int)) (dg_name 1) (ds_cons (ds_if (dt_w (dw_or (dt_not (dt_val (de_cb (fun y ok => call_isi) s_isi T.b_isinstance (da_cons (de_var 1) (da_cons (de_bty T.b_tuple) da_nil))))) (dw_or (dt_cmp (fun y ok => op_neA ok.room.units) s_ne (de_cb (fun y ok => call_len) s_len T.b_len (da_cons (de_var 1) da_nil)) de_int) (dw_or (dt_not (dt_val (de_cb (fun y ok => call_isi) s_isi T.b_isinstance (da_cons (de_ix (de_var 1) de_int) (da_cons (de_bty T.b_tuple) da_nil))))) (dw_or1 (dt_not (dt_val (de_cb (fun y ok => call_isi) s_isi T.b_isinstance (da_cons (de_ix (de_var 1) de_int) (da_cons (de_bty T.b_tuple) da_nil)))))))))) (ds_one (ds_ret de_bl)) ds_nil) (ds_one (ds_for (di_seq (de_var 1)) (dg_name 2) (ds_one (ds_if (dt_w (dw_or (dt_cmp (fun y ok => op_neA ok.room.units) s_ne (de_cb (fun y ok => call_len) s_len T.b_len (da_cons (de_var 2) da_nil)) (de_cb (fun y ok => call_len) s_len T.b_len (da_cons (de_ix (de_ix (de_ix (de_var 0) de_int) de_int) de_int) da_nil))) (dw_or (dt_not (dt_ch (fun y ok => op_le) s_le (fun y ok => op_le) s_le de_int (de_cb (fun y ok => call_len) s_len T.b_len (da_cons (de_var 2) da_nil)) de_int)) (dw_or1 (dt_cmp (fun y ok => op_neA ok.room.units) s_ne (de_lc [("one", 4)] (di_seq (de_var 2)) (by first | exact blk_of (by decide +kernel) | exact blk_of2 (by decide +kernel)) (dg_name 4) (dts_one (dt_not (dt_val (de_call (W_law_k79_small T) (da_cons (de_var 4) (da_cons (de_op (fun y ok => op_pow) s_pow de_int de_int) da_nil)))))) de_int) (de_lst da_nil)))))) (ds_one (ds_ret de_bl)) ds_nil)))))) (ds_cons (ds_set 3 (de_cb (fun y ok => call_len) s_len T.b_len (da_cons (de_ix (de_ix (de_ix (de_var 0) de_int) de_int) de_int) da_nil))) (ds_one (ds_ret (de_and (de_call (W_law_k79_small T) (da_cons (de_ix (de_var 0) de_int) (da_cons (de_op (fun y ok => op_sub) s_sub (de_var 3) de_int) da_nil))) (de_and (de_call (W_law_k79_small T) (da_cons (de_ix (de_var 0) de_int) (da_cons (de_op (fun y ok => op_pow) s_pow de_int de_int) da_nil))) (de_one (de_call (W_law_k79_small T) (da_cons (de_ix (de_var 0) de_int) (da_cons (de_cb (fun y ok => call_len) s_len T.b_len (da_cons (de_ix (de_var 0) de_int) da_nil)) da_nil)))))))))))
theorem w_law_k79_is (T : Tx K mg) : FnW P w K mg base 3 "_law_k79_is" 1 (fnF N_law_k79_is m_law_k79_is) := fnW_of T.f_law_k79_is sc_law_k79_is (by decide) (fun _ _ _ _ _ _ us hl => match us, hl with | [_], _ => rfl) (d_law_k79_is T)
theorem u_law_k79_is {d0 : D} {R : D → Prop} : (fnF N_law_k79_is m_law_k79_is).f [d0] R = m_law_k79_is.f { nx := fun _ => R .non, rt := R } ⟨[.sh d0, .un, .un, .un, .un], fun _ => False⟩ := rfl
def S_law_k79_is : WFn := ⟨fun ds R => ∃ n d, ds = [d] ∧ Pl n d = true ∧ n ≤ 1000 ∧ R (.bl (isRep d)), 0⟩
theorem I_law_k79_is : ∀ ds R, ds.length = 1 → S_law_k79_is.f ds R → (fnF N_law_k79_is m_law_k79_is).f ds R := by
  rintro _ R - ⟨n, d, rfl, hp, hn, h⟩
  have hs : 4096 * 4096 ≤ sizeLine := by rw [sizeLine_eq]; decide
  refine ⟨d, rfl, _, isi_tuple hp, _, rfl, ?_⟩
  cases d with
  | tup ds =>
    refine ⟨_, rfl, _, lenD_tup, _, neD_int _ _, _, rfl, ?_⟩
    cases h4 : decide ((ds.length : Int) = 4) with
    | false => rw [isRep_no (by exact h4)] at h; exact h
    | true =>
      obtain ⟨a, b, c, e, hd⟩ := tup4 (d := .tup ds) h4
      cases hd
      have hm := (Pl_tup.mp hp).2
      have ha := hm a (by simp)
      have hb := hm b (by simp)
      have hc := hm c (by simp)
      have he := hm e (by simp)
      refine ⟨_, rfl, _, ix3, _, isi_tuple he, _, rfl, ?_⟩
      cases e with
      | tup rows =>
        refine ⟨_, rfl, _, ix3, by show 0 ≤ sizeLine; omega, _, eqD_nil rows, _, rfl, ?_⟩
        cases rows with
        | nil => exact h
        | cons r0 rs =>
          have hrm := (Pl_tup.mp he).2
          rw [isRep_eq] at h
          have bad : ∀ row ∈ r0 :: rs, good (manyOf (r0 :: rs)) row = false → R (.bl false) := fun row hrow hb => by
            have : (r0 :: rs).all (good (manyOf (r0 :: rs))) = false := by
              rw [List.all_eq_false]
              exact ⟨row, hrow, by rw [hb]; decide⟩
            rw [this] at h
            exact h
          refine ⟨_, rfl, _, ix3, r0 :: rs, rfl, ?_⟩
          refine forW_ind (I := fun rest r => ∃ pre x1 x2, r0 :: rs = pre ++ rest ∧ (∀ z ∈ pre, good (manyOf (r0 :: rs)) z = true) ∧ r.sl = [.sh (.tup [a, b, c, .tup (r0 :: rs)]), x1, x2, .un, .un]) ?_ ?_ (r0 :: rs) _ ⟨[], .un, .un, rfl, (fun z hz => by cases hz), rfl⟩
          · -- behind the loop
            rintro ⟨sl, ew⟩ ⟨pre, x1, x2, e, hpre, hr⟩
            have hr : sl = _ := hr
            subst hr
            rw [List.append_nil] at e
            subst e
            obtain ⟨xs0, ys0, hr0, _, _⟩ := good_inv (hpre r0 List.mem_cons_self)
            have hM : manyOf (r0 :: rs) = xs0.length := by rw [hr0]; rfl
            rw [List.all_eq_true.mpr hpre, hM] at h
            refine ⟨_, rfl, _, ix3, _, ix0, _, by rw [hr0]; exact ix0, _, lenD_tup, ?_⟩
            refine ⟨_, rfl, _, ix0, _, rfl, _, subD_int, n, a, xs0.length - 1, rfl, ha, _, rfl, ?_⟩
            cases h1 : num a 0 (xs0.length - 1) with
            | false => rw [h1] at h; exact h
            | true =>
              rw [h1] at h
              refine ⟨_, rfl, _, ix1, _, pow6, n, b, 1000000, rfl, hb, _, rfl, ?_⟩
              cases h2 : num b 0 1000000 with
              | false => rw [h2] at h; exact h
              | true =>
                rw [h2] at h
                exact ⟨_, rfl, _, ix2, _, rfl, _, ix3, _, lenD_tup, n, c, _, rfl, hc, h⟩
          · rintro row rest ⟨sl, ew⟩ nx ⟨pre, x1, x2, e, hpre, hr⟩ hnx
            have hr : sl = _ := hr
            subst hr
            have hrow : row ∈ r0 :: rs := by rw [e]; simp
            have hpr := hrm row hrow
            have bad' := bad row hrow
            refine ⟨row, rfl, _, isi_tuple hpr, _, rfl, ?_⟩
            cases row with
            | tup zs =>
              refine ⟨_, rfl, _, lenD_tup, _, neD_int _ _, _, rfl, ?_⟩
              cases hz2 : decide ((zs.length : Int) = 2) with
              | false =>
                refine bad' ?_
                cases e : good (manyOf (r0 :: rs)) (.tup zs) with
                | false => rfl
                | true => obtain ⟨xs, ys, he, _⟩ := good_inv e; cases he; cases hz2
              | true =>
                obtain ⟨x, y, hxy⟩ := tup2 (d := .tup zs) hz2
                cases hxy
                have hx := (Pl_tup.mp hpr).2 x (by simp)
                have hy := (Pl_tup.mp hpr).2 y (by simp)
                refine ⟨_, rfl, _, ix0, _, isi_tuple hx, _, rfl, ?_⟩
                cases x with
                | tup xs =>
                  refine ⟨_, rfl, _, ix1, _, isi_tuple hy, _, rfl, ?_⟩
                  cases y with
                  | tup ys =>
                    have h0 : ∃ xs0 ys0, r0 = .tup [.tup xs0, .tup ys0] := by
                      cases pre with
                      | nil => cases e; exact ⟨_, _, rfl⟩
                      | cons p pre => cases e; obtain ⟨u, w, hu, _⟩ := good_inv (hpre _ List.mem_cons_self); exact ⟨u, w, hu⟩
                    obtain ⟨xs0, ys0, hr0⟩ := h0
                    have hM : manyOf (r0 :: rs) = xs0.length := by rw [hr0]; rfl
                    rw [hM] at bad' hpre
                    have side : ∀ (zs : List D) (x1 : D) (ew : Ex → Prop) (W : WEnds), (∀ d ∈ zs, Pl n d = true) → (sideG xs0.length zs = true → W.nx ⟨[.sh (.tup [a, b, c, .tup (r0 :: rs)]), .sh x1, .sh (.tup zs), .un, .un], ew⟩) → (sideG xs0.length zs = false → W.rt (.bl false)) →
                        (sIf (cOr (tV (eOp neD (eCB lenD (aCons (eVar 2) aNil)) (eCB lenD (aCons (eOp ixD (eOp ixD (eOp ixD (eVar 0) (eC (.int 3))) (eC (.int 0))) (eC (.int 0))) aNil)))) (cOr (cNot (tV (eCh leD leD (eC (.int 1)) (eCB lenD (aCons (eVar 2) aNil)) (eC (.int 5))))) (tV (eOp neD (eLc (iSeq (eVar 2)) (gN 4) (cNot (tV (eCall S_law_k79_small (aCons (eVar 4) (aCons (eOp powD (eC (.int 10)) (eC (.int 6))) aNil))))) (eC (.int 1)) [4]) (eLst aNil))))) (sRet (eC (.bl false))) sNext).f W ⟨[.sh (.tup [a, b, c, .tup (r0 :: rs)]), .sh x1, .sh (.tup zs), .un, .un], ew⟩ := by
                      intro zs x1 ew W hzs hok hno
                      refine ⟨_, rfl, _, lenD_tup, _, rfl, _, ix3, _, ix0, _, by rw [hr0]; exact ix0, _, lenD_tup, _, neD_int _ _, _, rfl, ?_⟩
                      cases g1 : decide ((zs.length : Int) = xs0.length) with
                      | false => exact hno (by simp only [sideG]; rw [show decide (zs.length = xs0.length) = false from by rw [decide_eq_false_iff_not] at g1 ⊢; omega]; rfl)
                      | true =>
                        have g1' : decide (zs.length = xs0.length) = true := by rw [decide_eq_true_eq] at g1 ⊢; omega
                        refine ⟨_, rfl, _, lenD_tup, _, leD_int, ?_⟩
                        cases g2 : decide ((1 : Int) ≤ zs.length) with
                        | false => exact ⟨_, rfl, hno (by simp only [sideG, g1']; rw [show decide (1 ≤ zs.length) = false from by rw [decide_eq_false_iff_not] at g2 ⊢; omega]; rfl)⟩
                        | true =>
                          have g2' : decide (1 ≤ zs.length) = true := by rw [decide_eq_true_eq] at g2 ⊢; omega
                          refine ⟨_, leD_int, _, rfl, ?_⟩
                          cases g3 : decide ((zs.length : Int) ≤ 5) with
                          | false => exact hno (by simp only [sideG, g1', g2']; rw [show decide (zs.length ≤ 5) = false from by rw [decide_eq_false_iff_not] at g3 ⊢; omega]; rfl)
                          | true =>
                            have g3' : decide (zs.length ≤ 5) = true := by rw [decide_eq_true_eq] at g3 ⊢; omega
                            refine ⟨_, rfl, _, rfl, lcW_of (fun x => !num x 0 1000000) (fun _ => .int 1) (fun d hd Kt Kf k1 k2 => ⟨d, rfl, _, pow6, n, d, 1000000, rfl, hzs d hd, _, rfl, ?_⟩) ⟨by show 0 ≤ sizeLine; omega, _, neD_nilL _, _, rfl, ?_⟩⟩
                            · cases g4 : num d 0 1000000 with
                              | false => exact k1 (by rw [g4]; rfl)
                              | true => exact k2 (by rw [g4]; rfl)
                            · rw [List.nil_append, none_left]
                              have g5 : sideG xs0.length zs = zs.all fun x => !!num x 0 1000000 := by simp only [sideG, g1', g2', g3', Bool.not_not]; rfl
                              cases g6 : zs.all fun x => !!num x 0 1000000 with
                              | false => exact hno (g5.trans g6)
                              | true => exact hok (g5.trans g6)
                    refine ⟨_, rfl, _, rfl, ?_⟩
                    refine side xs _ ew _ (Pl_tup.mp hx).2 (fun k1 => ?_) (fun k1 => bad' (by simp only [good, k1]; rfl))
                    refine side ys _ ew _ (Pl_tup.mp hy).2 (fun k2 => ?_) (fun k2 => bad' (by simp only [good, k2, Bool.and_false]))
                    refine hnx _ ⟨pre ++ [.tup [.tup xs, .tup ys]], _, _, by rw [e]; simp, fun z hz => ?_, rfl⟩
                    rw [hM]
                    rcases List.mem_append.mp hz with k3 | k3
                    · exact hpre z k3
                    · rw [List.mem_singleton.mp k3]; simp only [good, k1, k2]; rfl
                  | _ => exact bad' rfl
                | _ => exact bad' rfl
            | _ => exact bad' rfl
      | _ => exact h
  | _ => exact h
theorem W_law_k79_is (T : Tx K mg) : FnW P w K mg base 3 "_law_k79_is" 1 S_law_k79_is := (w_law_k79_is T).imp (by decide) I_law_k79_is
/-! ### _law_k79_shown -/
abbrev N_law_k79_shown : List Str := ["value", "layer", "many", "layers", "at", "report"]
theorem sc_law_k79_shown : FnScope N_law_k79_shown ["value", "layer"] (defScope st_law_k79_shown) := ⟨rfl, rfl, rfl, by decide +kernel, rfl, by decide +kernel, by decide +kernel⟩
def m_law_k79_shown : WS := (sSeq (sIf (cOr (cNot (tV (eCB isi (aCons (eVar 0) (aCons (eC (.ty "tuple")) aNil))))) (cOr (tV (eOp eqD (eVar 0) (eTup aNil))) (tV (eOp neD (eLc (iSeq (eVar 0)) (gN 5) (cNot (tV (eCall S_law_k79_is (aCons (eVar 5) aNil)))) (eC (.int 1)) [5]) (eLst aNil))))) (sRet (eC (.bl false))) sNext) (sSeq (sUnp (eTup (aCons (eCB lenD (aCons (eVar 0) aNil)) (aCons (eCB lenD (aCons (eOp ixD (eOp ixD (eVar 0) (eC (.int 0))) (eC (.int 3))) aNil)) aNil))) (gP 2 3)) (sSeq (sIf (tV (eOp neD (eLc (iEnum (aCons (eVar 0) aNil)) (gP 4 5) (cOr (tV (eOp neD (eOp ixD (eVar 5) (eC (.int 0))) (eVar 4))) (cOr (tV (eOp neD (eCB lenD (aCons (eOp ixD (eVar 5) (eC (.int 3))) aNil)) (eVar 3))) (tV (eOp neD (eCB lenD (aCons (eOp ixD (eOp ixD (eOp ixD (eVar 5) (eC (.int 3))) (eC (.int 0))) (eC (.int 0))) aNil)) (eVar 2))))) (eC (.int 1)) [4, 5]) (eLst aNil))) (sRet (eC (.bl false))) sNext) (sRet (eAnd (eCall S_law_k79_small (aCons (eVar 1) (aCons (eOp subD (eVar 3) (eC (.int 1))) aNil))) (eCall S_law_ho_shown (aCons (eVar 0) (aCons (eVar 1) aNil))))))))
theorem d_law_k79_shown (T : Tx K mg) : DSs (gOf P w K mg base 3 N_law_k79_shown st_law_k79_shown false) (defBody st_law_k79_shown) m_law_k79_shown := (ds_cons (ds_if (dt_w (dw_or (dt_not (dt_val (de_cb (fun y ok => call_isi) s_isi T.b_isinstance (da_cons (de_var 0) (da_cons (de_bty T.b_tuple) da_nil))))) (dw_or (dt_cmp (fun y ok => op_eqA ok.room.units) s_eq (de_var 0) (de_tup da_nil)) (dw_or1 (dt_cmp (fun y ok => op_neA ok.room.units) s_ne (de_lc [("report", 5)] (di_seq (de_var 0)) (by first | exact blk_of (by decide +kernel) | exact blk_of2 (by decide +kernel)) (dg_name 5) (dts_one (dt_not (dt_val (de_call (W_law_k79_is T) (da_cons (de_var 5) da_nil))))) de_int) (de_lst da_nil)))))) (ds_one (ds_ret de_bl)) ds_nil) (ds_cons (ds_unp (de_tup (da_cons (de_cb (fun y ok => call_len) s_len T.b_len (da_cons (de_var 0) da_nil)) (da_cons (de_cb (fun y ok => call_len) s_len T.b_len (da_cons (de_ix (de_ix (de_var 0) de_int) de_int) da_nil)) da_nil))) (dg_pair 2 3)) (ds_cons (ds_if (dt_cmp (fun y ok => op_neA ok.room.units) s_ne (de_lc [("at", 4), ("report", 5)] (di_enum T.b_enumerate (da_cons (de_var 0) da_nil)) (by first | exact blk_of (by decide +kernel) | exact blk_of2 (by decide +kernel)) (dg_pair 4 5) (dts_one (dt_w (dw_or (dt_cmp (fun y ok => op_neA ok.room.units) s_ne (de_ix (de_var 5) de_int) (de_var 4)) (dw_or (dt_cmp (fun y ok => op_neA ok.room.units) s_ne (de_cb (fun y ok => call_len) s_len T.b_len (da_cons (de_ix (de_var 5) de_int) da_nil)) (de_var 3)) (dw_or1 (dt_cmp (fun y ok => op_neA ok.room.units) s_ne (de_cb (fun y ok => call_len) s_len T.b_len (da_cons (de_ix (de_ix (de_ix (de_var 5) de_int) de_int) de_int) da_nil)) (de_var 2))))))) de_int) (de_lst da_nil)) (ds_one (ds_ret de_bl)) ds_nil) (ds_one (ds_ret (de_and (de_call (W_law_k79_small T) (da_cons (de_var 1) (da_cons (de_op (fun y ok => op_sub) s_sub (de_var 3) de_int) da_nil))) (de_one (de_call (W_law_ho_shown T) (da_cons (de_var 0) (da_cons (de_var 1) da_nil))))))))))
theorem w_law_k79_shown (T : Tx K mg) : FnW P w K mg base 4 "_law_k79_shown" 2 (fnF N_law_k79_shown m_law_k79_shown) := fnW_of T.f_law_k79_shown sc_law_k79_shown (by decide) (fun _ _ _ _ _ _ us hl => match us, hl with | [_, _], _ => rfl) (d_law_k79_shown T)
theorem u_law_k79_shown {d0 d1 : D} {R : D → Prop} : (fnF N_law_k79_shown m_law_k79_shown).f [d0, d1] R = m_law_k79_shown.f { nx := fun _ => R .non, rt := R } ⟨[.sh d0, .sh d1, .un, .un, .un, .un], fun _ => False⟩ := rfl
def S_law_k79_shown : WFn := ⟨fun ds R => ∃ n v m l, ds = [v, l] ∧ Pl n v = true ∧ n ≤ 1000 ∧ Pl m l = true ∧ R (.bl (shown v l)), 0⟩
def lotG (L M : Nat) : D → Bool
  | .tup [.int k, r] => decide (repH r = k) && decide ((repRows r).length = L) && decide (manyOf (repRows r) = M)
  | _ => false
theorem lot_numd (L M : Nat) : ∀ (rs : List D) (i : Nat), (numd i rs).all (lotG L M) = lotOk L M i rs
  | [], _ => rfl
  | r :: rs, i => by
    show (lotG L M (.tup [.int (i : Nat), r]) && (numd (i + 1) rs).all (lotG L M)) = _
    rw [lot_numd L M rs (i + 1)]
    rfl
theorem numd_mem : ∀ {rs : List D} {i : Nat} {d : D}, d ∈ numd i rs → ∃ (k : Nat) (r : D), d = .tup [.int k, r] ∧ r ∈ rs
  | r :: rs, i, d, h => by
    rcases List.mem_cons.mp (show d ∈ D.tup [.int (i : Nat), r] :: numd (i + 1) rs from h) with z | z
    · exact ⟨i, r, z, List.mem_cons_self⟩
    · obtain ⟨k, r', e, hr⟩ := numd_mem z
      exact ⟨k, r', e, List.mem_cons_of_mem _ hr⟩
theorem I_law_k79_shown : ∀ ds R, ds.length = 2 → S_law_k79_shown.f ds R → (fnF N_law_k79_shown m_law_k79_shown).f ds R := by
  rintro _ R - ⟨n, v, m, l, rfl, hv, hn, hl, h⟩
  have hs : 4096 * 4096 ≤ sizeLine := by rw [sizeLine_eq]; decide
  refine ⟨v, rfl, _, isi_tuple hv, _, rfl, ?_⟩
  cases v with
  | tup rs =>
    obtain ⟨hlen, hm⟩ := Pl_tup.mp hv
    refine ⟨_, rfl, by show 0 ≤ sizeLine; omega, _, eqD_nil rs, _, rfl, ?_⟩
    cases rs with
    | nil => exact h
    | cons r0 rs0 =>
      generalize hrs : r0 :: rs0 = rs at *
      have he : rs.isEmpty = false := by rw [← hrs]; rfl
      have hr0 : r0 ∈ rs := by rw [← hrs]; simp
      have hix : atI rs 0 = some r0 := by rw [← hrs]; exact ix0
      rw [he]
      refine ⟨_, rfl, rs, rfl, lcW_of (fun r => !isRep r) (fun _ => .int 1) (fun r hr Kt Kf k1 k2 => ⟨_, rfl, n, r, rfl, hm r hr, hn, _, rfl, ?_⟩) ⟨by show 0 ≤ sizeLine; omega, _, neD_nilL _, _, rfl, ?_⟩⟩
      · cases hR : isRep r with
        | true => exact k2 (by rw [hR]; rfl)
        | false => exact k1 (by rw [hR]; rfl)
      · rw [List.nil_append, none_left]
        have e1 : (rs.all fun r => !!isRep r) = rs.all isRep := by congr 1; funext r; rw [Bool.not_not]
        rw [e1]
        cases hA : rs.all isRep with
        | false =>
          have : shown (.tup rs) l = false := by simp [shown, isLot, hA]
          rw [this] at h
          exact h
        | true =>
          have hA0 := List.all_eq_true.mp hA
          obtain ⟨a0, b0, c0, q0, qs, e0, _⟩ := isRep_inv (hA0 r0 hr0)
          have hL : layersOf (.tup rs) = (q0 :: qs).length := by rw [← hrs]; show (repRows r0).length = _; rw [e0]; rfl
          have hLot : isLot (.tup rs) = lotOk (layersOf (.tup rs)) rs.length 0 rs := by
            simp only [isLot, hA, he]
            rfl
          refine ⟨_, rfl, _, lenD_tup, _, rfl, _, hix, _, by rw [e0]; exact ix3, _, lenD_tup, by show 2 ≤ sizeLine; omega, _, _, rfl, ?_⟩
          rw [← hL]
          refine ⟨_, rfl, _, rs, rfl, rfl, by omega, lcW_of (fun d => !lotG (layersOf (.tup rs)) rs.length d) (fun _ => .int 1) (fun d hd Kt Kf k1 k2 => ?_) ⟨by show 0 ≤ sizeLine; omega, _, neD_nilL _, _, rfl, ?_⟩⟩
          · obtain ⟨k, r, rfl, hr⟩ := numd_mem hd
            obtain ⟨a, b, c, w0, ws, rfl, h1, h2, h3⟩ := isRep_inv (hA0 r hr)
            obtain ⟨xs, ys, hw, _, _⟩ := good_inv (h3 w0 List.mem_cons_self)
            have hmany : manyOf (w0 :: ws) = xs.length := by rw [hw]; rfl
            have k1 : (!(decide (a = (k : Int)) && decide ((w0 :: ws).length = layersOf (.tup rs)) && decide (manyOf (w0 :: ws) = rs.length))) = true → Kt (.int 1) := k1
            have k2 : (!(decide (a = (k : Int)) && decide ((w0 :: ws).length = layersOf (.tup rs)) && decide (manyOf (w0 :: ws) = rs.length))) = false → Kf := k2
            rw [hmany] at k1 k2
            refine ⟨_, _, rfl, _, rfl, _, ix0, _, rfl, _, neD_int _ _, _, rfl, ?_⟩
            cases g1 : decide (a = (k : Int)) with
            | false => exact k1 (by rw [g1]; rfl)
            | true =>
              refine ⟨_, rfl, _, ix3, _, lenD_tup, _, rfl, _, neD_int _ _, _, rfl, ?_⟩
              cases g2 : decide (((w0 :: ws).length : Int) = (layersOf (.tup rs) : Int)) with
              | false => exact k1 (by rw [g1, show decide ((w0 :: ws).length = layersOf (.tup rs)) = false from by rw [decide_eq_false_iff_not] at g2 ⊢; omega]; rfl)
              | true =>
                have g2' : decide ((w0 :: ws).length = layersOf (.tup rs)) = true := by rw [decide_eq_true_eq] at g2 ⊢; omega
                refine ⟨_, rfl, _, ix3, _, ix0, _, by rw [hw]; exact ix0, _, lenD_tup, _, rfl, _, neD_int _ _, _, rfl, ?_⟩
                cases g3 : decide ((xs.length : Int) = (rs.length : Int)) with
                | false => exact k1 (by rw [g1, g2', show decide (xs.length = rs.length) = false from by rw [decide_eq_false_iff_not] at g3 ⊢; omega]; rfl)
                | true => exact k2 (by rw [g1, g2', show decide (xs.length = rs.length) = true from by rw [decide_eq_true_eq] at g3 ⊢; omega]; rfl)
          · rw [List.nil_append, none_left]
            have e2 : ((numd 0 rs).all fun x => !!lotG (layersOf (.tup rs)) rs.length x) = isLot (.tup rs) := by
              rw [hLot, ← lot_numd]
              congr 1
              funext r
              rw [Bool.not_not]
            rw [e2]
            cases hB : isLot (.tup rs) with
            | false =>
              have : shown (.tup rs) l = false := by simp [shown, hB]
              rw [this] at h
              exact h
            | true =>
              obtain ⟨_, hreps⟩ := lot_reps hB
              refine ⟨_, rfl, _, rfl, _, subD_int, m, l, _, rfl, hl, _, rfl, ?_⟩
              cases hN : num l 0 (layersOf (.tup rs) - 1) with
              | false =>
                have : shown (.tup rs) l = false := by simp [shown, hN]
                rw [this] at h
                exact h
              | true =>
                cases l with
                | int li =>
                  have hN' := hN
                  simp only [num, Bool.and_eq_true, decide_eq_true_eq] at hN
                  obtain ⟨i, rfl⟩ : ∃ i : Nat, li = i := ⟨li.toNat, by omega⟩
                  have hE : shown (.tup rs) (.int i) = (rs.all (fun r => decide ((i : Int) ≤ repT r)) && rs.all fun r => rs.all fun o => sentOk i r o) := by
                    simp only [shown, hB, hN']
                    rfl
                  rw [hE] at h
                  exact ⟨_, rfl, _, rfl, rs, i, layersOf (.tup rs), rs.length, rfl, by omega, by omega, hreps, h⟩
                | _ => cases hN
  | _ => exact h
theorem W_law_k79_shown (T : Tx K mg) : FnW P w K mg base 4 "_law_k79_shown" 2 S_law_k79_shown := (w_law_k79_shown T).imp (by decide) I_law_k79_shown
/-! ### _law_k79_asked -/
abbrev N_law_k79_asked : List Str := ["value", "layer", "due"]
theorem sc_law_k79_asked : FnScope N_law_k79_asked ["value", "layer"] (defScope st_law_k79_asked) := ⟨rfl, rfl, rfl, by decide +kernel, rfl, by decide +kernel, by decide +kernel⟩
def m_law_k79_asked : WS := (sSeq (sSet 2 (eCall S_law_k79_shown (aCons (eVar 0) (aCons (eVar 1) aNil)))) (sRet (eAnd (eCall S_law_is_truth (aCons (eCall S_shows_done (aCons (eVar 0) (aCons (eVar 1) aNil))) (aCons (eVar 2) aNil))) (eCall S_law_is_truth (aCons (eCallK [1, 0] S_shows_done (aCons (eVar 1) (aCons (eVar 0) aNil))) (aCons (eVar 2) aNil))))))
theorem d_law_k79_asked (T : Tx K mg) : DSs (gOf P w K mg base 6 N_law_k79_asked st_law_k79_asked false) (defBody st_law_k79_asked) m_law_k79_asked := (ds_cons (ds_set 2 (de_call (W_law_k79_shown T) (da_cons (de_var 0) (da_cons (de_var 1) da_nil)))) (ds_one (ds_ret (de_and (de_call (W_law_is_truth T) (da_cons (de_call (W_shows_done T) (da_cons (de_var 0) (da_cons (de_var 1) da_nil))) (da_cons (de_var 2) da_nil))) (de_one (de_call (W_law_is_truth T) (da_cons (de_callK (W_shows_done_k0 T) (dk_cons (de_var 1) (dk_cons (de_var 0) dk_nil))) (da_cons (de_var 2) da_nil))))))))
theorem w_law_k79_asked (T : Tx K mg) : FnW P w K mg base 7 "_law_k79_asked" 2 (fnF N_law_k79_asked m_law_k79_asked) := fnW_of T.f_law_k79_asked sc_law_k79_asked (by decide) (fun _ _ _ _ _ _ us hl => match us, hl with | [_, _], _ => rfl) (d_law_k79_asked T)
theorem u_law_k79_asked {d0 d1 : D} {R : D → Prop} : (fnF N_law_k79_asked m_law_k79_asked).f [d0, d1] R = m_law_k79_asked.f { nx := fun _ => R .non, rt := R } ⟨[.sh d0, .sh d1, .un], fun _ => False⟩ := rfl
def S_law_k79_asked : WFn := ⟨fun ds R => ∃ n v m l, ds = [v, l] ∧ Pl n v = true ∧ n ≤ 1000 ∧ Pl m l = true ∧ R (.bl true), 0⟩
theorem I_law_k79_asked : ∀ ds R, ds.length = 2 → S_law_k79_asked.f ds R → (fnF N_law_k79_asked m_law_k79_asked).f ds R := by
  rintro _ R - ⟨n, v, m, l, rfl, hv, hn, hl, h⟩
  refine ⟨v, rfl, l, rfl, n, v, m, l, rfl, hv, hn, hl, ?_⟩
  refine ⟨v, rfl, l, rfl, n, v, m, l, rfl, hv, hn, hl, _, rfl, _, _, rfl, _, rfl, ?_⟩
  rw [beq_self_eq_true]
  refine ⟨l, rfl, v, rfl, n, v, m, l, rfl, hv, hn, hl, _, rfl, _, _, rfl, ?_⟩
  rw [beq_self_eq_true]
  exact h
theorem W_law_k79_asked (T : Tx K mg) : FnW P w K mg base 7 "_law_k79_asked" 2 S_law_k79_asked := (w_law_k79_asked T).imp (by decide) I_law_k79_asked
/-! ### _law_k79_reports -/
abbrev N_law_k79_reports : List Str := ["state", "many", "layers", "sent", "off", "layer", "one", "other", "found", "house", "rows", "had", "at"]
theorem sc_law_k79_reports : FnScope N_law_k79_reports ["state", "many", "layers"] (defScope st_law_k79_reports) := ⟨rfl, rfl, rfl, by decide +kernel, rfl, by decide +kernel, by decide +kernel⟩
def m_law_k79_reports : WS := (sSeq (sParO 3 4 ⟨fun _ R => R (.ot []), 0⟩ (eCall S_law_pick (aCons (eVar 0) (aCons (eLst (aCons (eC (.int 0)) (aCons (eC (.int 0)) (aCons (eC (.int 12)) aNil)))) aNil)))) (sSeq (sFor (iRange (aCons (eVar 2) aNil)) (gN 5) (sFor (iRange (aCons (eVar 1) aNil)) (gN 6) (sFor (iRange (aCons (eVar 1) aNil)) (gN 7) (sPutT 3 (aCons (eVar 5) (aCons (eVar 6) (aCons (eVar 7) aNil))) (eIf (tV (eOp eqD (eVar 6) (eVar 7))) (eC (.int 0)) (eCall S_law_pick (aCons (eVar 0) (aCons (eLst (aCons (eC (.int 0)) (aCons (eC (.int 1)) (aCons (eC (.int 2)) (aCons (eC (.int 5)) (aCons (eOp powD (eC (.int 10)) (eC (.int 6))) aNil)))))) aNil)))))))) (sSeq (sOwn 8 (fLst aNil)) (sSeq (sFor (iRange (aCons (eVar 1) aNil)) (gN 9) (sSeq (sOwn 10 (fLst aNil)) (sSeq (sFor (iRange (aCons (eVar 2) aNil)) (gN 5) (sSeq (sOwn 11 (fLc (iRange (aCons (eVar 1) aNil)) (gN 7) cYes (eGetT 3 (aCons (eVar 5) (aCons (eVar 7) (aCons (eVar 9) aNil)))) [7])) (sSeq (sIf (cAnd (tV (eOp gtD (eVar 4) (eC (.int 0)))) (tV (eOp eqD (eCall S_law_draw (aCons (eVar 0) (aCons (eVar 4) aNil))) (eC (.int 0))))) (sSeq (sSet 12 (eCall S_law_draw (aCons (eVar 0) (aCons (eVar 1) aNil)))) (sPut 11 (eVar 12) (eOp modD (eOp addD (eOwnIx 11 (eVar 12)) (eC (.int 1))) (eOp powD (eC (.int 10)) (eC (.int 6)))))) sNext) (sGive 11 (sApp 10 (eTup (aCons (eCB toT (aCons (eLc (iRange (aCons (eVar 1) aNil)) (gN 7) cYes (eGetT 3 (aCons (eVar 5) (aCons (eVar 9) (aCons (eVar 7) aNil)))) [7]) aNil)) (aCons (eCB toT (aCons (eVar 11) aNil)) aNil)))))))) (sGive 10 (sApp 8 (eTup (aCons (eVar 9) (aCons (eCall S_law_draw (aCons (eVar 0) (aCons (eC (.int 9)) aNil))) (aCons (eCall S_law_pick (aCons (eVar 0) (aCons (eLst (aCons (eVar 2) (aCons (eVar 2) (aCons (eCall S_law_draw (aCons (eVar 0) (aCons (eOp addD (eVar 2) (eC (.int 1))) aNil))) aNil)))) aNil))) (aCons (eCB toT (aCons (eVar 10) aNil)) aNil)))))))))) (sGive 8 (sRet (eCB toT (aCons (eVar 8) aNil))))))))
theorem d_law_k79_reports (T : Tx K mg) : DSs (gOf P w K mg base 3 N_law_k79_reports st_law_k79_reports false) (defBody st_law_k79_reports) m_law_k79_reports := (ds_cons (ds_unpO 3 4 df_dicT (de_call (W_law_pick T) (da_cons (de_var 0) (da_cons (de_lst (da_cons de_int (da_cons de_int (da_cons de_int da_nil)))) da_nil)))) (ds_cons (ds_for (di_range T.b_range (da_cons (de_var 2) da_nil)) (dg_name 5) (ds_one (ds_for (di_range T.b_range (da_cons (de_var 1) da_nil)) (dg_name 6) (ds_one (ds_for (di_range T.b_range (da_cons (de_var 1) da_nil)) (dg_name 7) (ds_one (ds_putT 3 (de_if (dt_cmp (fun y ok => op_eqA ok.room.units) s_eq (de_var 6) (de_var 7)) de_int (de_call (W_law_pick T) (da_cons (de_var 0) (da_cons (de_lst (da_cons de_int (da_cons de_int (da_cons de_int (da_cons de_int (da_cons (de_op (fun y ok => op_pow) s_pow de_int de_int) da_nil)))))) da_nil)))) (da_cons (de_var 5) (da_cons (de_var 6) (da_cons (de_var 7) da_nil)))))))))) (ds_cons (ds_own 8 (df_lst da_nil)) (ds_cons (ds_for (di_range T.b_range (da_cons (de_var 1) da_nil)) (dg_name 9) (ds_cons (ds_own 10 (df_lst da_nil)) (ds_cons (ds_for (di_range T.b_range (da_cons (de_var 2) da_nil)) (dg_name 5) (ds_cons (ds_ownLc [("other", 7)] 11 (di_range T.b_range (da_cons (de_var 1) da_nil)) (by first | exact blk_of (by decide +kernel) | exact blk_of2 (by decide +kernel)) (dg_name 7) dts_nil (de_getT 3 (da_cons (de_var 5) (da_cons (de_var 7) (da_cons (de_var 9) da_nil))))) (ds_cons (ds_if (dt_w (dw_and (dt_cmp (fun y ok => op_gt) s_gt (de_var 4) de_int) (dw_and1 (dt_cmp (fun y ok => op_eqA ok.room.units) s_eq (de_call (W_law_draw T) (da_cons (de_var 0) (da_cons (de_var 4) da_nil))) de_int)))) (ds_cons (ds_set 12 (de_call (W_law_draw T) (da_cons (de_var 0) (da_cons (de_var 1) da_nil)))) (ds_one (ds_put 11 (de_op (fun y ok => op_mod) s_mod (de_op (fun y ok => op_addA) s_add (de_ownIx 11 (de_var 12)) de_int) (de_op (fun y ok => op_pow) s_pow de_int de_int)) (de_var 12)))) ds_nil) (ds_give 11 (ds_one (ds_app 10 (de_tup (da_cons (de_ct (fun y ok => call_tuple_of) s_toT T.b_tuple (da_cons (de_lc [("other", 7)] (di_range T.b_range (da_cons (de_var 1) da_nil)) (by first | exact blk_of (by decide +kernel) | exact blk_of2 (by decide +kernel)) (dg_name 7) dts_nil (de_getT 3 (da_cons (de_var 5) (da_cons (de_var 9) (da_cons (de_var 7) da_nil))))) da_nil)) (da_cons (de_ct (fun y ok => call_tuple_of) s_toT T.b_tuple (da_cons (de_var 11) da_nil)) da_nil))))))))) (ds_give 10 (ds_one (ds_app 8 (de_tup (da_cons (de_var 9) (da_cons (de_call (W_law_draw T) (da_cons (de_var 0) (da_cons de_int da_nil))) (da_cons (de_call (W_law_pick T) (da_cons (de_var 0) (da_cons (de_lst (da_cons (de_var 2) (da_cons (de_var 2) (da_cons (de_call (W_law_draw T) (da_cons (de_var 0) (da_cons (de_op (fun y ok => op_addA) s_add (de_var 2) de_int) da_nil))) da_nil)))) da_nil))) (da_cons (de_ct (fun y ok => call_tuple_of) s_toT T.b_tuple (da_cons (de_var 10) da_nil)) da_nil))))))))))) (ds_give 8 (ds_one (ds_ret (de_ct (fun y ok => call_tuple_of) s_toT T.b_tuple (da_cons (de_var 8) da_nil)))))))))
theorem w_law_k79_reports (T : Tx K mg) : FnW P w K mg base 4 "_law_k79_reports" 3 (fnF N_law_k79_reports m_law_k79_reports) := fnW_of T.f_law_k79_reports sc_law_k79_reports (by decide) (fun _ _ _ _ _ _ us hl => match us, hl with | [_, _, _], _ => rfl) (d_law_k79_reports T)
theorem u_law_k79_reports {d0 d1 d2 : D} {R : D → Prop} : (fnF N_law_k79_reports m_law_k79_reports).f [d0, d1, d2] R = m_law_k79_reports.f { nx := fun _ => R .non, rt := R } ⟨[.sh d0, .sh d1, .sh d2, .un, .un, .un, .un, .un, .un, .un, .un, .un, .un], fun _ => False⟩ := rfl
def repSh (r : D) : Prop := ∃ (x y z : Int) (rows : List D), r = .tup [.int x, .int y, .int z, .tup rows] ∧ Pl 10 (.tup rows) = true ∧ dep (.tup rows) ≤ 3
def S_law_k79_reports : WFn := ⟨fun ds R => ∃ m l : Nat, ds = [.st, .int m, .int l] ∧ 1 ≤ m ∧ m ≤ 5 ∧ 1 ≤ l ∧ l ≤ 4 ∧ ∀ rs : List D, rs.length = m → (∀ r ∈ rs, repSh r) → R (.tup rs), (fnF N_law_k79_reports m_law_k79_reports).n⟩
def AllInt (ds : List D) : Prop := ∀ d ∈ ds, ∃ x : Int, d = .int x
theorem AllInt.pl {ds : List D} (h : AllInt ds) {n : Nat} (hl : ds.length ≤ n) : Pl n (.tup ds) = true := Pl_tup.mpr ⟨hl, fun d hd => by obtain ⟨x, rfl⟩ := h d hd; rfl⟩
theorem AllInt.dep : ∀ {ds : List D}, AllInt ds → depL ds = 0
  | [], _ => rfl
  | d :: ds, h => by
    obtain ⟨x, rfl⟩ := h d List.mem_cons_self
    simp only [depL, DS.dep]
    rw [AllInt.dep fun e he => h e (List.mem_cons_of_mem _ he)]
    rfl
def rowI (m : Nat) (d : D) : Prop := ∃ xs ys, d = .tup [.tup xs, .tup ys] ∧ AllInt xs ∧ AllInt ys ∧ xs.length = m ∧ ys.length = m
theorem rows_ok {m : Nat} (hm : m ≤ 5) {rows : List D} (hl : rows.length ≤ 4) (h : ∀ d ∈ rows, rowI m d) : Pl 10 (.tup rows) = true ∧ dep (.tup rows) ≤ 3 := by
  constructor
  · refine Pl_tup.mpr ⟨by omega, fun d hd => ?_⟩
    obtain ⟨xs, ys, rfl, h1, h2, h3, h4⟩ := h d hd
    refine Pl_tup.mpr ⟨by simp, fun e he => ?_⟩
    rcases List.mem_cons.mp he with z | z
    · rw [z]; exact h1.pl (by omega)
    · rw [List.mem_singleton.mp z]; exact h2.pl (by omega)
  · have : ∀ l : List D, (∀ d ∈ l, rowI m d) → depL l ≤ 2 := by
      intro l
      induction l with
      | nil => intro _; exact Nat.zero_le _
      | cons d l ih =>
        intro hl
        obtain ⟨xs, ys, rfl, h1, h2, h3, h4⟩ := hl d List.mem_cons_self
        have := ih fun e he => hl e (List.mem_cons_of_mem _ he)
        simp only [depL, dep, h1.dep, h2.dep]
        omega
    have := this rows h
    simp only [dep]
    omega
/-- the counts sent -/
def K3 (l o h : Nat) : List Key := [.inl (l : Int), .inl (o : Int), .inl (h : Int)]
theorem K3_inj {l o h l' o' h' : Nat} (e : K3 l o h = K3 l' o' h') : l = l' ∧ o = o' ∧ h = h' := by
  unfold K3 at e
  simp only [List.cons.injEq, Sum.inl.injEq, Int.ofNat_inj, and_true] at e
  exact e
def Has (kvs : List (List Key × D)) (P : Nat → Nat → Nat → Prop) : Prop := ∀ l o h, P l o h → ∃ x : Int, getKV kvs (K3 l o h) = some (.int x)
theorem Has.put {kvs : List (List Key × D)} {P : Nat → Nat → Nat → Prop} (hp : Has kvs P) (l o h : Nat) (x : Int) : Has (putKV kvs (K3 l o h) (.int x)) fun l' o' h' => P l' o' h' ∨ (l' = l ∧ o' = o ∧ h' = h) := by
  intro l' o' h' hq
  by_cases e : K3 l' o' h' = K3 l o h
  · rw [e]; exact ⟨x, getKV_put _ _ _⟩
  · rw [getKV_put_ne _ _ e]
    rcases hq with hq | ⟨rfl, rfl, rfl⟩
    · exact hp _ _ _ hq
    · exact absurd rfl e
theorem Has.mono {kvs : List (List Key × D)} {P Q : Nat → Nat → Nat → Prop} (hp : Has kvs P) (hq : ∀ l o h, Q l o h → P l o h) : Has kvs Q := fun l o h z => hp l o h (hq l o h z)
theorem I_law_k79_reports : ∀ ds R, ds.length = 3 → S_law_k79_reports.f ds R → (fnF N_law_k79_reports m_law_k79_reports).f ds R := by
  rintro _ R - ⟨m, l, rfl, m1, m5, l1, l4, h⟩
  have hs : 4096 * 4096 ≤ sizeLine := by rw [sizeLine_eq]; decide
  have big : ∀ k : Nat, k ≤ 5 → -(2 ^ 62) ≤ (k : Int) ∧ (k : Int).toNat ≤ sizeLine := fun k hk => ⟨by omega, by rw [Int.toNat_natCast]; omega⟩
  refine ⟨_, rfl, by show 3 ≤ sizeLine; omega, [.int 0, .int 0, .int 12], rfl, by decide, by decide, fun off hoff => ?_⟩
  have hoff : ∃ o : Int, off = .int o ∧ o < 2 ^ 30 := by
    simp only [List.mem_cons, List.not_mem_nil, or_false] at hoff
    rcases hoff with rfl | rfl | rfl
    · exact ⟨0, rfl, by decide⟩
    · exact ⟨0, rfl, by decide⟩
    · exact ⟨12, rfl, by decide⟩
  obtain ⟨off, rfl, o30⟩ := hoff
  refine ⟨by show 3 < 13; decide, ?_⟩
  -- the counts
  refine ⟨_, rfl, l, rfl, (big l (by omega)).1, (big l (by omega)).2, ?_⟩
  rw [Int.toNat_natCast]
  refine forR (I := fun i r => ∃ kvs x5 x6 x7, Has kvs (fun l o h => l < i ∧ o < m ∧ h < m) ∧ kvs.length ≤ i * 25 ∧ r.sl = [.sh .st, .sh (.int m), .sh (.int l), .ot kvs, .sh (.int off), x5, x6, x7, .un, .un, .un, .un, .un]) ?_ ?_ ⟨[], .un, .un, .un, (fun l o h z => by omega), Nat.zero_le _, rfl⟩
  · rintro ⟨sl, ew⟩ ⟨kvs, x5, x6, x7, hk, hkl, hr⟩
    have hr : sl = _ := hr
    subst hr
    refine ⟨by show 0 ≤ sizeLine; omega, by show 8 < 13; decide, ?_⟩
    refine ⟨_, rfl, m, rfl, (big m m5).1, (big m m5).2, ?_⟩
    rw [Int.toNat_natCast]
    refine forR (I := fun i r => ∃ found x5 x6 x7 x9 x10 x11 x12, found.length = i ∧ (∀ d ∈ found, repSh d) ∧ r.sl = [.sh .st, .sh (.int m), .sh (.int l), .ot kvs, .sh (.int off), x5, x6, x7, .ol found, x9, x10, x11, x12]) ?_ ?_ ⟨[], x5, x6, x7, .un, .un, .un, .un, rfl, (fun z hz => by cases hz), rfl⟩
    · rintro ⟨sl, ew⟩ ⟨found, x5, x6, x7, x9, x10, x11, x12, hfl, hf, hr⟩
      have hr : sl = _ := hr
      subst hr
      exact ⟨found, rfl, _, rfl, _, rfl, h found hfl hf⟩
    · rintro hs_ ⟨sl, ew⟩ nx hi ⟨found, x5, x6, x7, x9, x10, x11, x12, hfl, hf, hr⟩ hnx
      have hr : sl = _ := hr
      subst hr
      refine ⟨by show 0 ≤ sizeLine; omega, by show 10 < 13; decide, ?_⟩
      refine ⟨_, rfl, l, rfl, (big l (by omega)).1, (big l (by omega)).2, ?_⟩
      rw [Int.toNat_natCast]
      refine forR (I := fun i r => ∃ rows x5 x6 x7 x11 x12, rows.length = i ∧ (∀ d ∈ rows, rowI m d) ∧ r.sl = [.sh .st, .sh (.int m), .sh (.int l), .ot kvs, .sh (.int off), x5, x6, x7, .ol found, .sh (.int hs_), .ol rows, x11, x12]) ?_ ?_ ⟨[], x5, x6, x7, x11, x12, rfl, (fun z hz => by cases hz), rfl⟩
      · rintro ⟨sl, ew⟩ ⟨rows, x5, x6, x7, x11, x12, hrl, hrows, hr⟩
        have hr : sl = _ := hr
        subst hr
        obtain ⟨p1, p2⟩ := rows_ok m5 (by omega) hrows
        refine ⟨rows, rfl, found, rfl, _, rfl, _, rfl, 9, rfl, by decide, by decide, fun q q0 q1 => ⟨_, rfl, _, rfl, _, rfl, _, rfl, _, rfl, _, addD_int, _, rfl, by omega, by omega, fun w w0 w1 => ⟨by show 3 ≤ sizeLine; omega, [.int l, .int l, .int w], rfl, by show 0 < 3; decide, by show 3 < 2 ^ 30; decide, fun z hz => ?_⟩⟩⟩
        have hz : ∃ z' : Int, z = .int z' := by
          simp only [List.mem_cons, List.not_mem_nil, or_false] at hz
          rcases hz with rfl | rfl | rfl
          · exact ⟨_, rfl⟩
          · exact ⟨_, rfl⟩
          · exact ⟨_, rfl⟩
        obtain ⟨z, rfl⟩ := hz
        refine ⟨_, rfl, _, rfl, by show 4 ≤ sizeLine; omega, by omega, ?_⟩
        refine hnx _ ⟨found ++ [.tup [.int hs_, .int q, .int z, .tup rows]], x5, x6, x7, .sh (.int hs_), .sh (.lst rows), x11, x12, by rw [List.length_append, hfl]; rfl, fun d hd => ?_, rfl⟩
        rcases List.mem_append.mp hd with k3 | k3
        · exact hf d k3
        · rw [List.mem_singleton.mp k3]; exact ⟨_, _, _, _, rfl, p1, p2⟩
      · rintro la ⟨sl, ew⟩ nx2 hla ⟨rows, x5, x6, x7, x11, x12, hrl, hrows, hr⟩ hnx2
        have hr : sl = _ := hr
        subst hr
        have cell : ∀ a b : Nat, a < m → b < m → ∃ x : Int, getKV kvs (K3 la a b) = some (.int x) := fun a b ha hb => hk la a b ⟨hla, ha, hb⟩
        -- rows.append(..)
        have fin : ∀ (had : List D) (x7 x12 : Sl) (ew : Ex → Prop) (W : WEnds), (∀ r', (∃ rows x5 x6 x7 x11 x12, rows.length = la + 1 ∧ (∀ d ∈ rows, rowI m d) ∧ r'.sl = [.sh .st, .sh (.int m), .sh (.int l), .ot kvs, .sh (.int off), x5, x6, x7, .ol found, .sh (.int hs_), .ol rows, x11, x12]) → W.nx r') → AllInt had → had.length = m →
            (sGive 11 (sApp 10 (eTup (aCons (eCB toT (aCons (eLc (iRange (aCons (eVar 1) aNil)) (gN 7) cYes (eGetT 3 (aCons (eVar 5) (aCons (eVar 9) (aCons (eVar 7) aNil)))) [7]) aNil)) (aCons (eCB toT (aCons (eVar 11) aNil)) aNil))))).f W ⟨[.sh .st, .sh (.int m), .sh (.int l), .ot kvs, .sh (.int off), .sh (.int la), x6, x7, .ol found, .sh (.int hs_), .ol rows, .ol had, x12], ew⟩ := by
          intro had x7 x12 ew W hW hai hhl
          refine ⟨had, rfl, rows, rfl, _, rfl, m, rfl, (big m m5).1, (big m m5).2, ?_⟩
          rw [Int.toNat_natCast]
          refine lcW_map (fun d => match d with | .int i => (getKV kvs [.inl (la : Int), .inl (hs_ : Int), .inl i]).getD .non | _ => .non) (fun d hd Kt hK => ?_) ?_
          · obtain ⟨i, rfl, him⟩ := upto_mem hd
            obtain ⟨x, hx⟩ := cell hs_ i hi him
            have hK : Kt ((getKV kvs (K3 la hs_ i)).getD .non) := hK
            rw [hx] at hK
            exact ⟨kvs, rfl, _, rfl, _, rfl, _, rfl, K3 la hs_ i, _, rfl, by show 3 ≤ sizeLine; omega, hx, hK⟩
          · refine ⟨_, rfl, _, rfl, _, rfl, by show 2 ≤ sizeLine; omega, by omega, ?_⟩
            refine hW _ ⟨rows ++ [.tup [.tup ((upto m).map fun d => match d with | .int i => (getKV kvs [.inl (la : Int), .inl (hs_ : Int), .inl i]).getD .non | _ => .non), .tup had]], _, _, _, _, _, by rw [List.length_append, hrl]; rfl, fun d hd => ?_, rfl⟩
            rcases List.mem_append.mp hd with k3 | k3
            · exact hrows d k3
            · rw [List.mem_singleton.mp k3]
              refine ⟨_, _, rfl, fun e he => ?_, hai, by rw [List.length_map, upto_len], hhl⟩
              obtain ⟨d', hd', rfl⟩ := List.mem_map.mp he
              obtain ⟨i, rfl, him⟩ := upto_mem hd'
              obtain ⟨x, hx⟩ := cell hs_ i hi him
              refine ⟨x, ?_⟩
              show (getKV kvs (K3 la hs_ i)).getD .non = _
              rw [hx]; rfl
        -- had = ..
        refine ⟨_, rfl, m, rfl, (big m m5).1, (big m m5).2, ?_⟩
        rw [Int.toNat_natCast]
        refine lcW_map (fun d => match d with | .int i => (getKV kvs [.inl (la : Int), .inl i, .inl (hs_ : Int)]).getD .non | _ => .non) (fun d hd Kt hK => ?_) ?_
        · obtain ⟨i, rfl, him⟩ := upto_mem hd
          obtain ⟨x, hx⟩ := cell i hs_ him hi
          have hK : Kt ((getKV kvs (K3 la i hs_)).getD .non) := hK
          rw [hx] at hK
          exact ⟨kvs, rfl, _, rfl, _, rfl, _, rfl, K3 la i hs_, _, rfl, by show 3 ≤ sizeLine; omega, hx, hK⟩
        · have hai : AllInt ((upto m).map fun d => match d with | .int i => (getKV kvs [.inl (la : Int), .inl i, .inl (hs_ : Int)]).getD .non | _ => .non) := by
            intro e he
            obtain ⟨d', hd', rfl⟩ := List.mem_map.mp he
            obtain ⟨i, rfl, him⟩ := upto_mem hd'
            obtain ⟨x, hx⟩ := cell i hs_ him hi
            refine ⟨x, ?_⟩
            show (getKV kvs (K3 la i hs_)).getD .non = _
            rw [hx]; rfl
          have hhl : ((upto m).map fun d => match d with | .int i => (getKV kvs [.inl (la : Int), .inl i, .inl (hs_ : Int)]).getD .non | _ => .non).length = m := by rw [List.length_map, upto_len]
          rw [List.nil_append]
          generalize (upto m).map (fun d => match d with | .int i => (getKV kvs [.inl (la : Int), .inl i, .inl (hs_ : Int)]).getD .non | _ => .non) = had at hai hhl ⊢
          refine ⟨by show 11 < 13; decide, ?_⟩
          refine ⟨_, rfl, _, gtD_int, _, rfl, ?_⟩
          cases hoff0 : decide (0 < off) with
          | false => exact fin had _ _ _ _ hnx2 hai hhl
          | true =>
            refine ⟨_, rfl, _, rfl, off, rfl, of_decide_eq_true hoff0, o30, fun q q0 q1 => ⟨_, eqD_int q 0, _, rfl, ?_⟩⟩
            cases hq0 : decide (q = 0) with
            | false => exact fin had _ _ _ _ hnx2 hai hhl
            | true =>
              refine ⟨_, rfl, _, rfl, m, rfl, by omega, by omega, fun a a0 a1 => ?_⟩
              have ha : a.toNat < had.length := by omega
              have hat : atI had a = some had[a.toNat] := by
                have := atI_nat (xs := had) (j := a.toNat) (List.getElem?_eq_getElem ha)
                rwa [Int.toNat_of_nonneg a0] at this
              have hixn : ixN had.length a = some a.toNat := by
                unfold ixN
                rw [if_pos a0, if_pos (by omega)]
              obtain ⟨x, hx⟩ := hai _ (List.getElem_mem ha)
              rw [hx] at hat
              refine ⟨had, rfl, _, rfl, a, _, rfl, hat, _, addD_int, _, pow6, .int ((x + 1) % 1000000), rfl, had, rfl, _, rfl, a, a.toNat, rfl, hixn, ?_⟩
              refine fin (had.set a.toNat (.int ((x + 1) % 1000000))) _ _ _ _ hnx2 (fun e he => ?_) (by rw [List.length_set]; exact hhl)
              rcases List.mem_or_eq_of_mem_set he with k3 | k3
              · exact hai e k3
              · exact ⟨_, k3⟩
  · rintro i ⟨sl, ew⟩ nx hi ⟨kvs, x5, x6, x7, hk, hkl, hr⟩ hnx
    have hr : sl = _ := hr
    subst hr
    refine ⟨_, rfl, m, rfl, (big m m5).1, (big m m5).2, ?_⟩
    rw [Int.toNat_natCast]
    refine forR (I := fun j r => ∃ kvs x6 x7, Has kvs (fun l o h => (l < i ∧ o < m ∧ h < m) ∨ (l = i ∧ o < j ∧ h < m)) ∧ kvs.length ≤ i * 25 + j * 5 ∧ r.sl = [.sh .st, .sh (.int m), .sh (.int l), .ot kvs, .sh (.int off), .sh (.int i), x6, x7, .un, .un, .un, .un, .un]) ?_ ?_ ⟨kvs, x6, x7, hk.mono (fun l o h z => by rcases z with z | z; exact z; omega), by omega, rfl⟩
    · rintro ⟨sl, ew⟩ ⟨kvs, x6, x7, hk, hkl, hr⟩
      exact hnx _ ⟨kvs, _, x6, x7, hk.mono (fun l o h z => by omega), by omega, hr⟩
    · rintro j ⟨sl, ew⟩ nx2 hj ⟨kvs, x6, x7, hk, hkl, hr⟩ hnx2
      have hr : sl = _ := hr
      subst hr
      refine ⟨_, rfl, m, rfl, (big m m5).1, (big m m5).2, ?_⟩
      rw [Int.toNat_natCast]
      refine forR (I := fun q r => ∃ kvs x7, Has kvs (fun l o h => ((l < i ∧ o < m ∧ h < m) ∨ (l = i ∧ o < j ∧ h < m)) ∨ (l = i ∧ o = j ∧ h < q)) ∧ kvs.length ≤ i * 25 + j * 5 + q ∧ r.sl = [.sh .st, .sh (.int m), .sh (.int l), .ot kvs, .sh (.int off), .sh (.int i), .sh (.int j), x7, .un, .un, .un, .un, .un]) ?_ ?_ ⟨kvs, x7, hk.mono (fun l o h z => by rcases z with z | z; exact z; omega), by omega, rfl⟩
      · rintro ⟨sl, ew⟩ ⟨kvs, x7, hk, hkl, hr⟩
        exact hnx2 _ ⟨kvs, _, x7, hk.mono (fun l o h z => by omega), by omega, hr⟩
      · rintro q ⟨sl, ew⟩ nx3 hq ⟨kvs, x7, hk, hkl, hr⟩ hnx3
        have hr : sl = _ := hr
        subst hr
        have done : ∀ x : Int, (∃ kvs', some (Sl.ot kvs) = some (Sl.ot kvs') ∧ ((aCons (eVar 5) (aCons (eVar 6) (aCons (eVar 7) aNil))).f ⟨[.sh .st, .sh (.int m), .sh (.int l), .ot kvs, .sh (.int off), .sh (.int i), .sh (.int j), .sh (.int q), .un, .un, .un, .un, .un], ew⟩ fun ds => ∃ k : List Key, ds = k.map keyD ∧ ds.length ≤ sizeLine ∧ kvs'.length < sizeLine ∧
            nx3 ((⟨[.sh .st, .sh (.int m), .sh (.int l), .ot kvs, .sh (.int off), .sh (.int i), .sh (.int j), .sh (.int q), .un, .un, .un, .un, .un], ew⟩ : Env).at 3 (.ot (putKV kvs' k (.int x)))))) := by
          intro x
          refine ⟨kvs, rfl, _, rfl, _, rfl, _, rfl, K3 i j q, rfl, by show 3 ≤ sizeLine; omega, by omega, ?_⟩
          refine hnx3 _ ⟨putKV kvs (K3 i j q) (.int x), _, (hk.put i j q x).mono (fun l o h z => by omega), ?_, rfl⟩
          have := putKV_len kvs (K3 i j q) (.int x)
          omega
        refine ⟨_, rfl, _, rfl, _, eqD_int _ _, _, rfl, ite2 (fun _ => done 0) (fun _ => ?_)⟩
        refine ⟨_, rfl, _, pow6, by show 5 ≤ sizeLine; omega, [.int 0, .int 1, .int 2, .int 5, .int 1000000], rfl, by decide, by decide, fun e he => ?_⟩
        have he : ∃ x : Int, e = .int x := by
          simp only [List.mem_cons, List.not_mem_nil, or_false] at he
          rcases he with rfl | rfl | rfl | rfl | rfl
          · exact ⟨_, rfl⟩
          · exact ⟨_, rfl⟩
          · exact ⟨_, rfl⟩
          · exact ⟨_, rfl⟩
          · exact ⟨_, rfl⟩
        obtain ⟨x, rfl⟩ := he
        exact done x
theorem W_law_k79_reports (T : Tx K mg) : FnW P w K mg base 4 "_law_k79_reports" 3 S_law_k79_reports := (w_law_k79_reports T).imp (by decide) I_law_k79_reports
/-! ### law -/
abbrev N_law : List Str := ["script", "state", "turn", "many", "layers", "some", "layer", "lifted", "value", "one", "other", "report"]
theorem sc_law : FnScope N_law ["script"] (defScope st_law) := ⟨rfl, rfl, rfl, by decide +kernel, rfl, by decide +kernel, by decide +kernel⟩
def m_law : WS := (sSeq (sFor (iRange (aCons (eC (.int 8)) aNil)) (gN 2) (sSeq (sUnp (eTup (aCons (eOp addD (eC (.int 1)) (eCall S_law_draw (aCons (eVar 1) (aCons (eC (.int 5)) aNil)))) (aCons (eOp addD (eC (.int 1)) (eCall S_law_draw (aCons (eVar 1) (aCons (eC (.int 4)) aNil)))) aNil))) (gP 3 4)) (sSeq (sSet 5 (eCall S_law_k79_reports (aCons (eVar 1) (aCons (eVar 3) (aCons (eVar 4) aNil))))) (sSeq (sSet 6 (eCall S_law_draw (aCons (eVar 1) (aCons (eVar 4) aNil)))) (sSeq (sSet 7 (eCB toT (aCons (eLc (iSeq (eVar 5)) (gN 11) cYes (eOp addD (eOp addD (eSl (eVar 11) oNo (oYes (eC (.int 2)))) (eTup (aCons (eVar 4) aNil))) (eSl (eVar 11) (oYes (eC (.int 3))) oNo)) [11]) aNil))) (sSeq (sFor (iSeq (eLst (aCons (eVar 5) (aCons (eVar 7) (aCons (eCall S_law_bent (aCons (eVar 1) (aCons (eVar 5) aNil))) (aCons (eCall S_law_bent (aCons (eVar 1) (aCons (eVar 7) aNil))) (aCons (eRev (eVar 5)) (aCons (eSl (eVar 5) (oYes (eC (.int 1))) oNo) (aCons (eCB toL (aCons (eVar 5) aNil)) (aCons (eOp mulD (eTup (aCons (eOp ixD (eVar 5) (eC (.int 0))) aNil)) (eCB lenD (aCons (eVar 5) aNil))) aNil)))))))))) (gN 8) (sIf (cOr (cNot (tV (eCall S_law_k79_asked (aCons (eVar 8) (aCons (eVar 6) aNil))))) (cNot (tV (eCall S_law_k79_asked (aCons (eVar 8) (aCons (eCall S_law_pick (aCons (eVar 1) (aCons (eLst (aCons (eC (.int 0)) (aCons (eVar 4) (aCons (eUn negD (eC (.int 1))) (aCons (eC .non) (aCons (eC (.bl true)) aNil)))))) aNil))) aNil)))))) (sRet (eC (.bl false))) sNext)) (sFor (iSeq (eOp addD (eCB toL (aCons (eVar 5) aNil)) (eLst (aCons (eCall S_law_bent (aCons (eVar 1) (aCons (eOp ixD (eVar 5) (eC (.int 0))) aNil))) (aCons (eCall S_law_bent (aCons (eVar 1) (aCons (eOp ixD (eVar 5) (eC (.int 0))) aNil))) (aCons (eCall S_law_odd (aCons (eVar 1) aNil)) (aCons (eTup aNil) aNil))))))) (gN 8) (sIf (cOr (cNot (tV (eCall S_law_is_truth (aCons (eCall S_is_report (aCons (eVar 8) aNil)) (aCons (eCall S_law_k79_is (aCons (eVar 8) aNil)) aNil))))) (cNot (tV (eCall S_law_is_truth (aCons (eCallK [0] S_is_report (aCons (eVar 8) aNil)) (aCons (eCall S_law_k79_is (aCons (eVar 8) aNil)) aNil)))))) (sRet (eC (.bl false))) sNext)))))))) (sSeq (sSet 9 (eTup (aCons (eC (.int 0)) (aCons (eC (.int 3)) (aCons (eC (.int 1)) (aCons (eTup (aCons (eTup (aCons (eTup (aCons (eC (.int 0)) (aCons (eC (.int 2)) aNil))) (aCons (eTup (aCons (eC (.int 0)) (aCons (eC (.int 1)) aNil))) aNil))) (aCons (eTup (aCons (eTup (aCons (eC (.int 0)) (aCons (eC (.int 0)) aNil))) (aCons (eTup (aCons (eC (.int 0)) (aCons (eC (.int 0)) aNil))) aNil))) aNil))) aNil)))))) (sSeq (sSet 10 (eTup (aCons (eC (.int 1)) (aCons (eC (.int 5)) (aCons (eC (.int 0)) (aCons (eTup (aCons (eTup (aCons (eTup (aCons (eC (.int 1)) (aCons (eC (.int 0)) aNil))) (aCons (eTup (aCons (eC (.int 2)) (aCons (eC (.int 0)) aNil))) aNil))) (aCons (eTup (aCons (eTup (aCons (eC (.int 0)) (aCons (eC (.int 0)) aNil))) (aCons (eTup (aCons (eC (.int 0)) (aCons (eC (.int 0)) aNil))) aNil))) aNil))) aNil)))))) (sRet (eAnd (eOp isD (eCall S_shows_done (aCons (eTup (aCons (eVar 9) (aCons (eVar 10) aNil))) (aCons (eC (.int 0)) aNil))) (eC (.bl true))) (eOp isD (eCall S_shows_done (aCons (eTup (aCons (eVar 9) (aCons (eVar 10) aNil))) (aCons (eC (.int 1)) aNil))) (eC (.bl false))))))))
theorem d_law (T : Tx K mg) : DSs (gOf P w K mg base 13 N_law st_law false) (defBody st_law).tail m_law := (ds_cons (ds_for (di_range T.b_range (da_cons de_int da_nil)) (dg_name 2) (ds_cons (ds_unp (de_tup (da_cons (de_op (fun y ok => op_addA) s_add de_int (de_call (W_law_draw T) (da_cons (de_var 1) (da_cons de_int da_nil)))) (da_cons (de_op (fun y ok => op_addA) s_add de_int (de_call (W_law_draw T) (da_cons (de_var 1) (da_cons de_int da_nil)))) da_nil))) (dg_pair 3 4)) (ds_cons (ds_set 5 (de_call (W_law_k79_reports T) (da_cons (de_var 1) (da_cons (de_var 3) (da_cons (de_var 4) da_nil))))) (ds_cons (ds_set 6 (de_call (W_law_draw T) (da_cons (de_var 1) (da_cons (de_var 4) da_nil)))) (ds_cons (ds_set 7 (de_ct (fun y ok => call_tuple_of) s_toT T.b_tuple (da_cons (de_lc [("report", 11)] (di_seq (de_var 5)) (by first | exact blk_of (by decide +kernel) | exact blk_of2 (by decide +kernel)) (dg_name 11) dts_nil (de_op (fun y ok => op_addA) s_add (de_op (fun y ok => op_addA) s_add (de_sl (de_var 11) do_none (do_some de_int)) (de_tup (da_cons (de_var 4) da_nil))) (de_sl (de_var 11) (do_some de_int) do_none))) da_nil))) (ds_cons (ds_for (di_seq (de_lst (da_cons (de_var 5) (da_cons (de_var 7) (da_cons (de_call (W_law_bent T) (da_cons (de_var 1) (da_cons (de_var 5) da_nil))) (da_cons (de_call (W_law_bent T) (da_cons (de_var 1) (da_cons (de_var 7) da_nil))) (da_cons (de_rev (de_var 5)) (da_cons (de_sl (de_var 5) (do_some de_int) do_none) (da_cons (de_ct (fun y ok => call_list_of) s_toL T.b_list (da_cons (de_var 5) da_nil)) (da_cons (de_op (fun y ok => op_mulA) s_mul (de_tup (da_cons (de_ix (de_var 5) de_int) da_nil)) (de_cb (fun y ok => call_len) s_len T.b_len (da_cons (de_var 5) da_nil))) da_nil)))))))))) (dg_name 8) (ds_one (ds_if (dt_w (dw_or (dt_not (dt_val (de_call (W_law_k79_asked T) (da_cons (de_var 8) (da_cons (de_var 6) da_nil))))) (dw_or1 (dt_not (dt_val (de_call (W_law_k79_asked T) (da_cons (de_var 8) (da_cons (de_call (W_law_pick T) (da_cons (de_var 1) (da_cons (de_lst (da_cons de_int (da_cons (de_var 4) (da_cons (de_un (fun y ok => un_neg) s_neg de_int) (da_cons de_non (da_cons de_bl da_nil)))))) da_nil))) da_nil)))))))) (ds_one (ds_ret de_bl)) ds_nil))) (ds_one (ds_for (di_seq (de_op (fun y ok => op_addA) s_add (de_ct (fun y ok => call_list_of) s_toL T.b_list (da_cons (de_var 5) da_nil)) (de_lst (da_cons (de_call (W_law_bent T) (da_cons (de_var 1) (da_cons (de_ix (de_var 5) de_int) da_nil))) (da_cons (de_call (W_law_bent T) (da_cons (de_var 1) (da_cons (de_ix (de_var 5) de_int) da_nil))) (da_cons (de_call (W_law_odd T) (da_cons (de_var 1) da_nil)) (da_cons (de_tup da_nil) da_nil))))))) (dg_name 8) (ds_one (ds_if (dt_w (dw_or (dt_not (dt_val (de_call (W_law_is_truth T) (da_cons (de_call (W_is_report T) (da_cons (de_var 8) da_nil)) (da_cons (de_call (W_law_k79_is T) (da_cons (de_var 8) da_nil)) da_nil))))) (dw_or1 (dt_not (dt_val (de_call (W_law_is_truth T) (da_cons (de_callK (W_is_report_k0 T) (dk_cons (de_var 8) dk_nil)) (da_cons (de_call (W_law_k79_is T) (da_cons (de_var 8) da_nil)) da_nil)))))))) (ds_one (ds_ret de_bl)) ds_nil)))))))))) (ds_cons (ds_set 9 (de_tup (da_cons de_int (da_cons de_int (da_cons de_int (da_cons (de_tup (da_cons (de_tup (da_cons (de_tup (da_cons de_int (da_cons de_int da_nil))) (da_cons (de_tup (da_cons de_int (da_cons de_int da_nil))) da_nil))) (da_cons (de_tup (da_cons (de_tup (da_cons de_int (da_cons de_int da_nil))) (da_cons (de_tup (da_cons de_int (da_cons de_int da_nil))) da_nil))) da_nil))) da_nil)))))) (ds_cons (ds_set 10 (de_tup (da_cons de_int (da_cons de_int (da_cons de_int (da_cons (de_tup (da_cons (de_tup (da_cons (de_tup (da_cons de_int (da_cons de_int da_nil))) (da_cons (de_tup (da_cons de_int (da_cons de_int da_nil))) da_nil))) (da_cons (de_tup (da_cons (de_tup (da_cons de_int (da_cons de_int da_nil))) (da_cons (de_tup (da_cons de_int (da_cons de_int da_nil))) da_nil))) da_nil))) da_nil)))))) (ds_one (ds_ret (de_and (de_cmp (fun y ok => op_isA) s_is (de_call (W_shows_done T) (da_cons (de_tup (da_cons (de_var 9) (da_cons (de_var 10) da_nil))) (da_cons de_int da_nil))) de_bl) (de_one (de_cmp (fun y ok => op_isA) s_is (de_call (W_shows_done T) (da_cons (de_tup (da_cons (de_var 9) (da_cons (de_var 10) da_nil))) (da_cons de_int da_nil))) de_bl))))))))
theorem repSh_ok {r : D} (h : repSh r) : Pl 100 r = true ∧ dep r ≤ 4 := by
  obtain ⟨x, y, z, rows, rfl, h1, h2⟩ := h
  constructor
  · refine Pl_tup.mpr ⟨by show 4 ≤ 100; decide, fun d hd => ?_⟩
    simp only [List.mem_cons, List.not_mem_nil, or_false] at hd
    rcases hd with rfl | rfl | rfl | rfl
    · rfl
    · rfl
    · rfl
    · exact Pl_mono (by decide) h1
  · simp only [dep, depL] at h2 ⊢
    omega
theorem lot_ok {rs : List D} (hl : rs.length ≤ 5) (h : ∀ r ∈ rs, repSh r) : Pl 100 (.tup rs) = true ∧ dep (.tup rs) ≤ 5 := by
  constructor
  · exact Pl_tup.mpr ⟨by omega, fun d hd => (repSh_ok (h d hd)).1⟩
  · have : ∀ l : List D, (∀ d ∈ l, repSh d) → depL l ≤ 4 := by
      intro l
      induction l with
      | nil => intro _; exact Nat.zero_le _
      | cons d l ih =>
        intro hl
        have h1 := (repSh_ok (hl d List.mem_cons_self)).2
        have h2 := ih fun e he => hl e (List.mem_cons_of_mem _ he)
        simp only [depL]
        omega
    have := this rs h
    simp only [dep]
    omega
def liftR (l : Nat) : D → D
  | .tup [a, b, c, d] => .tup ([a, b] ++ [.int l] ++ [d])
  | _ => .non
theorem sl_2 {a b c d : D} : slD (.tup [a, b, c, d]) none (some 2) = some (.tup [a, b]) := by
  show some (D.tup (cutL _ none (some ((2 : Nat) : Int)))) = _
  rw [cut_to]; rfl
theorem sl_3 {a b c d : D} : slD (.tup [a, b, c, d]) (some 3) none = some (.tup [d]) := by
  show some (D.tup (cutL _ (some ((3 : Nat) : Int)) none)) = _
  rw [cut_from]; rfl
theorem mul_one {r : D} {k : Nat} (h1 : 1 ≤ k) (h2 : k ≤ 1000) : mulD (.tup [r]) (.int k) = some (.tup (rep k [r])) := by
  show Option.or none (if [r] ≠ [] ∧ 1 ≤ (k : Int) ∧ (k : Int) ≤ 1000 ∧ [r].length ≤ 1000 then some (D.tup (rep (k : Int).toNat [r])) else none) = _
  rw [if_pos ⟨by simp, by omega, by omega, by simp⟩, Int.toNat_natCast]
  rfl
theorem rep_mem {α : Type} {k : Nat} {r d : α} (h : d ∈ rep k [r]) : d = r := by
  unfold rep at h
  obtain ⟨l, h1, h2⟩ := List.mem_flatten.mp h
  rw [List.mem_replicate] at h1
  rw [h1.2] at h2
  exact List.mem_singleton.mp h2
def oneD : D := .tup [.int 0, .int 3, .int 1, .tup [.tup [.tup [.int 0, .int 2], .tup [.int 0, .int 1]], .tup [.tup [.int 0, .int 0], .tup [.int 0, .int 0]]]]
def otherD : D := .tup [.int 1, .int 5, .int 0, .tup [.tup [.tup [.int 1, .int 0], .tup [.int 2, .int 0]], .tup [.tup [.int 0, .int 0], .tup [.int 0, .int 0]]]]
theorem sh0 : shown (.tup [oneD, otherD]) (.int 0) = true := by decide +kernel
theorem sh1 : shown (.tup [oneD, otherD]) (.int 1) = false := by decide +kernel
theorem law_cost : m_law.n ≤ most := by unfold most; decide +kernel
theorem law_true : m_law.f { nx := fun _ => False, rt := fun d => d = .bl true } (lawE N_law) := by
  have hs : 4096 * 4096 ≤ sizeLine := by rw [sizeLine_eq]; decide
  refine ⟨8, rfl, by decide, by show 8 ≤ sizeLine; omega, ?_⟩
  show forW _ _ _ (upto 8) _
  refine forR (I := fun i r => ∃ x2 x3 x4 x5 x6 x7 x8 x9 x10 x11, r.sl = [.un, .sh .st, x2, x3, x4, x5, x6, x7, x8, x9, x10, x11]) ?_ ?_ ⟨.un, .un, .un, .un, .un, .un, .un, .un, .un, .un, rfl⟩
  · rintro ⟨sl, ew⟩ ⟨x2, x3, x4, x5, x6, x7, x8, x9, x10, x11, hr⟩
    have hr : sl = _ := hr
    subst hr
    refine ⟨by show 2 ≤ sizeLine; omega, by show 2 ≤ sizeLine; omega, by show 2 ≤ sizeLine; omega, by show 2 ≤ sizeLine; omega, by show 2 ≤ sizeLine; omega, by show 2 ≤ sizeLine; omega, by show 2 ≤ sizeLine; omega, by show 4 ≤ sizeLine; omega, ?_⟩
    refine ⟨by show 2 ≤ sizeLine; omega, by show 2 ≤ sizeLine; omega, by show 2 ≤ sizeLine; omega, by show 2 ≤ sizeLine; omega, by show 2 ≤ sizeLine; omega, by show 2 ≤ sizeLine; omega, by show 2 ≤ sizeLine; omega, by show 4 ≤ sizeLine; omega, ?_⟩
    refine ⟨_, rfl, _, rfl, by show 2 ≤ sizeLine; omega, 10, .tup [oneD, otherD], 10, .int 0, rfl, by decide +kernel, by decide, rfl, ?_⟩
    rw [sh0]
    refine ⟨_, rfl, _, rfl, ?_⟩
    refine ⟨_, rfl, _, rfl, by show 2 ≤ sizeLine; omega, 10, .tup [oneD, otherD], 10, .int 1, rfl, by decide +kernel, by decide, rfl, ?_⟩
    rw [sh1]
    exact ⟨_, rfl, rfl⟩
  · rintro i ⟨sl, ew⟩ nx hi ⟨x2, x3, x4, x5, x6, x7, x8, x9, x10, x11, hr⟩ hnx
    have hr : sl = _ := hr
    subst hr
    refine ⟨_, rfl, 5, rfl, by decide, by decide, fun q q0 q1 => ⟨_, addD_int, _, rfl, 4, rfl, by decide, by decide, fun w w0 w1 => ⟨_, addD_int, by show 2 ≤ sizeLine; omega, _, _, rfl, ?_⟩⟩⟩
    obtain ⟨m, hm⟩ : ∃ m : Nat, 1 + q = m := ⟨(1 + q).toNat, by omega⟩
    obtain ⟨l, hl⟩ : ∃ l : Nat, 1 + w = l := ⟨(1 + w).toNat, by omega⟩
    rw [hm, hl]
    refine ⟨_, rfl, _, rfl, _, rfl, m, l, rfl, by omega, by omega, by omega, by omega, fun rs hrl hrs => ?_⟩
    refine ⟨_, rfl, _, rfl, l, rfl, by omega, by omega, fun la la0 la1 => ?_⟩
    obtain ⟨o1, o2⟩ := lot_ok (by omega) hrs
    refine ⟨_, rfl, rs, rfl, lcW_map (liftR l) (fun r hr Kt hK => ?_) ⟨_, rfl, ?_⟩⟩
    · obtain ⟨x, y, z, rows, rfl, _, _⟩ := hrs r hr
      exact ⟨_, rfl, _, rfl, _, sl_2, _, rfl, by show 1 ≤ sizeLine; omega, _, addD_tup (by show 2 + 1 ≤ _; omega), _, rfl, _, rfl, _, sl_3, _, addD_tup (by show 3 + 1 ≤ _; omega), hK⟩
    · rw [List.nil_append]
      have hlif : ∀ r ∈ rs.map (liftR l), repSh r := by
        intro r hr
        obtain ⟨r', hr', rfl⟩ := List.mem_map.mp hr
        obtain ⟨x, y, z, rows, rfl, h1, h2⟩ := hrs r' hr'
        exact ⟨x, y, l, rows, rfl, h1, h2⟩
      have hlifl : (rs.map (liftR l)).length = m := by rw [List.length_map, hrl]
      generalize rs.map (liftR l) = ls at hlif hlifl ⊢
      obtain ⟨p1, p2⟩ := lot_ok (by omega) hlif
      cases rs with
      | nil => exfalso; rw [List.length_nil] at hrl; omega
      | cons r0 rs0 =>
        generalize hgen : r0 :: rs0 = rs at *
        have hix : atI rs 0 = some r0 := by rw [← hgen]; exact ix0
        have hr0 := hrs r0 (by rw [← hgen]; simp)
        have hcut : slD (.tup rs) (some 1) none = some (.tup (rs.drop 1)) := by
          show some (D.tup (cutL _ (some ((1 : Nat) : Int)) none)) = _
          rw [cut_from]
        have hPm : ∀ z ∈ rs, Pl 101 z = true := fun z hz => Pl_mono (by decide) (repSh_ok (hrs z hz)).1
        refine ⟨_, rfl, _, rfl, _, rfl, _, rfl, .tup rs, rfl, o1, Nat.le_trans o2 (by decide), fun b1 hb1 => ⟨_, rfl, _, rfl, .tup ls, rfl, p1, Nat.le_trans p2 (by decide), fun b2 hb2 => ?_⟩⟩
        refine ⟨_, rfl, rs, rfl, _, rfl, _, rfl, _, hcut, _, rfl, _, rfl, _, rfl, _, hix, by show 1 ≤ sizeLine; omega, _, rfl, _, lenD_tup, _, by rw [hrl]; exact mul_one (by omega) (by omega), by show 8 ≤ sizeLine; omega, _, rfl, ?_⟩
        refine forW_ind (I := fun rest r => (∀ d ∈ rest, Pl 200 d = true) ∧ ∃ x8, r.sl = [.un, .sh .st, .sh (.int i), .sh (.int m), .sh (.int l), .sh (.tup rs), .sh (.int la), .sh (.tup ls), x8, x9, x10, x11]) ?_ ?_ _ _ ⟨fun d hd => ?_, x8, rfl⟩
        · rintro ⟨sl, ew⟩ ⟨_, x8, hr⟩
          have hr : sl = _ := hr
          subst hr
          obtain ⟨q1, q2⟩ := repSh_ok hr0
          refine ⟨_, rfl, _, rfl, _, rfl, _, rfl, _, hix, r0, rfl, q1, Nat.le_trans q2 (by decide), fun c1 hc1 => ⟨_, rfl, _, rfl, _, hix, r0, rfl, q1, Nat.le_trans q2 (by decide), fun c2 hc2 => ⟨_, rfl, rfl, fun c3 hc3 => ?_⟩⟩⟩
          refine ⟨by show 0 ≤ sizeLine; omega, by show 4 ≤ sizeLine; omega, _, addD_lst (by show rs.length + 4 ≤ _; omega), _, rfl, ?_⟩
          refine forW_ind (I := fun rest r => (∀ d ∈ rest, Pl 200 d = true) ∧ ∃ x8, r.sl = [.un, .sh .st, .sh (.int i), .sh (.int m), .sh (.int l), .sh (.tup rs), .sh (.int la), .sh (.tup ls), x8, x9, x10, x11]) ?_ ?_ _ _ ⟨fun d hd => ?_, x8, rfl⟩
          · rintro ⟨sl, ew⟩ ⟨_, x8, hr⟩
            exact hnx _ ⟨_, _, _, _, _, _, _, _, _, _, hr⟩
          · rintro d ds ⟨sl, ew⟩ nx2 ⟨hds, x8, hr⟩ hnx2
            have hr : sl = _ := hr
            subst hr
            have hd := hds d List.mem_cons_self
            refine ⟨_, rfl, 200, d, rfl, hd, by decide, _, rfl, 200, d, rfl, hd, by decide, _, _, rfl, _, rfl, ?_⟩
            rw [beq_self_eq_true]
            refine ⟨_, rfl, 200, d, rfl, hd, by decide, _, rfl, 200, d, rfl, hd, by decide, _, _, rfl, _, rfl, ?_⟩
            rw [beq_self_eq_true]
            exact hnx2 _ ⟨fun e he => hds e (List.mem_cons_of_mem _ he), _, rfl⟩
          · rcases List.mem_append.mp hd with k | k
            · exact Pl_mono (by decide) (hPm d k)
            · simp only [List.mem_cons, List.not_mem_nil, or_false] at k
              rcases k with rfl | rfl | rfl | rfl
              · exact Pl_mono (by decide) hc1
              · exact Pl_mono (by decide) hc2
              · exact Pl_mono (by decide) hc3
              · rfl
        · rintro d ds ⟨sl, ew⟩ nx2 ⟨hds, x8, hr⟩ hnx2
          have hr : sl = _ := hr
          subst hr
          have hd := hds d List.mem_cons_self
          refine ⟨_, rfl, _, rfl, 200, d, 1, .int la, rfl, hd, by decide, rfl, _, rfl, ?_⟩
          refine ⟨_, rfl, _, rfl, _, rfl, _, rfl, by show 5 ≤ sizeLine; omega, [.int 0, .int l, .int (-1), .non, .bl true], rfl, by show 0 < 5; decide, by show 5 < 2 ^ 30; decide, fun e he => ?_⟩
          refine ⟨200, d, 1, e, rfl, hd, by decide, ?_, _, rfl, ?_⟩
          · simp only [List.mem_cons, List.not_mem_nil, or_false] at he
            rcases he with rfl | rfl | rfl | rfl | rfl <;> rfl
          · exact hnx2 _ ⟨fun e he => hds e (List.mem_cons_of_mem _ he), _, rfl⟩
        · have hd : d = .tup rs ∨ d = .tup ls ∨ d = b1 ∨ d = b2 ∨ d = .tup rs.reverse ∨ d = .tup (rs.drop 1) ∨ d = .lst rs ∨ d = .tup (rep m [r0]) := by
            simpa only [List.mem_cons, List.not_mem_nil, or_false] using hd
          rcases hd with rfl | rfl | rfl | rfl | rfl | rfl | rfl | rfl
          · exact Pl_mono (by decide) o1
          · exact Pl_mono (by decide) p1
          · exact Pl_mono (by decide) hb1
          · exact Pl_mono (by decide) hb2
          · exact Pl_tup.mpr ⟨by rw [List.length_reverse]; omega, fun z hz => Pl_mono (by decide) (hPm z (List.mem_reverse.mp hz))⟩
          · exact Pl_tup.mpr ⟨by rw [List.length_drop]; omega, fun z hz => Pl_mono (by decide) (hPm z (List.mem_of_mem_drop hz))⟩
          · exact Pl_lst.mpr ⟨by omega, fun z hz => Pl_mono (by decide) (hPm z hz)⟩
          · refine Pl_tup.mpr ⟨by rw [rep_len]; show m * 1 ≤ 200; omega, fun z hz => ?_⟩
            rw [rep_mem hz]
            exact Pl_mono (by decide) (repSh_ok hr0).1
theorem ok_law (T : Tx K mg) {f : Addr} {fd : FuncData} (F : L2.Fun K "law" "law" st_law f fd) : FnOk P w K mg base L2.CX0 14 f fd ["script"] (spLaw K) :=
  law_ok F sc_law (W_law_begun T) (by decide) rfl (d_law T) (by decide) rfl rfl rfl (by first | exact Or.inl rfl | exact Or.inr rfl) ⟨law_cost, law_true⟩
end
theorem all_mk {l : PySem.W.OpenLaw} {w : World} {K : PySem.W.Frag} {h : Heap} {mg : Str → Option Value} {fa f2 : Addr} (X : K.In h) (G : h.Ns mainGlobals mg) (hfa : mg "law" = some (.ref fa)) (T : Tx K mg)
    {od2 an2 : Option Addr} {sl2 : Array (Option Value)} {oc2 kV2 dc2 pm2 cd2 ct2 : Value} (a2 : PySem.W.nsIn K mainGlobals "law" = some (some (.ref f2))) (l2 : K.lookup f2 = some ⟨oc2, od2, .func (PySem.W.fnOf "law" "law" (defArgs st_law) (defBody st_law) (defScope st_law) .none kV2 dc2 pm2 an2 cd2 ct2), sl2⟩) (c2 : PySem.W.codeIn K cd2 "law" = true) (k2 : PySem.W.keepIn K (.ref f2) = true) :
    ∃ fd : FuncData, (∀ (s : Shared) (v : Value), BindsTo s fd ⟨[v], []⟩ [("script", v)]) ∧ ∀ base : Heap, K.In base → base.Ns mainGlobals mg → FnOk l.prog w K mg base L2.CX0 14 fa fd ["script"] (spLaw K) := by
  have e := hfa.symm.trans (PySem.W.mg_of X G a2)
  cases e
  exact ⟨PySem.W.fnOf "law" "law" (defArgs st_law) (defBody st_law) (defScope st_law) .none kV2 dc2 pm2 an2 cd2 ct2, fun s v => .of_eq rfl, fun base _ _ => ok_law T (fun_mk l2 c2 k2)⟩
end DS
open PySem PySem.W PyProof.Rows
set_option maxHeartbeats 0 in
theorem PySem.Challenge.cw_whyandwhynot_k79_reports_and_what_they_s_holds : PySem.Challenge.rw_whyandwhynot_k79_reports_and_what_they_s.Holds := by
  w_on; o_law; k_head; (case hw => w_witness2)
  k_fill
  refine L2.walk_ofK (l := PySem.Challenge.rw_whyandwhynot_k79_reports_and_what_they_s) (n := 63) (k := 14) (x := "script") (CX := L2.CX0) (sp := DS.spLaw) rfl (by decide) rfl ⟨rfl, by decide, by decide⟩ (fun w h Y => PySem.W.kIn_of Y) ?F (fun _ _ a ns hl _ hS => ⟨a, ns, rfl, hS, hl, fun _ => rfl⟩) (fun _ _ _ _ h => h)
  case F =>
    intro w mg fa h KX G hmg
    refine' DS.all_mk KX G hmg ⟨PySem.W.mg_none_of KX G ?b0, PySem.W.mg_none_of KX G ?b1, PySem.W.mg_none_of KX G ?b2, PySem.W.mg_none_of KX G ?b3, PySem.W.mg_none_of KX G ?b4, PySem.W.mg_none_of KX G ?b5, PySem.W.mg_none_of KX G ?b6, PySem.W.mg_none_of KX G ?b7, PySem.W.mg_none_of KX G ?b8, PySem.W.mg_none_of KX G ?b9, DS.Glob.int KX G ?c0, DS.Glob.int KX G ?c1, DS.Have.mk' KX G ?a0 ?l0 ?d0 ?k0, DS.Have.mk' KX G ?a1 ?l1 ?d1 ?k1, DS.Have.mk' KX G ?a2 ?l2 ?d2 ?k2, DS.Have.mk' KX G ?a3 ?l3 ?d3 ?k3, DS.Have.mk' KX G ?a4 ?l4 ?d4 ?k4, DS.Have.mk' KX G ?a5 ?l5 ?d5 ?k5, DS.Have.mk' KX G ?a6 ?l6 ?d6 ?k6, DS.Have.mk' KX G ?a7 ?l7 ?d7 ?k7, DS.Have.mk' KX G ?a8 ?l8 ?d8 ?k8, DS.Have.mk' KX G ?a9 ?l9 ?d9 ?k9, DS.Have.mk' KX G ?a10 ?l10 ?d10 ?k10, DS.Have.mk' KX G ?a11 ?l11 ?d11 ?k11, DS.Have.mk' KX G ?a12 ?l12 ?d12 ?k12, DS.Have.mk' KX G ?a13 ?l13 ?d13 ?k13, DS.Have.mk' KX G ?a14 ?l14 ?d14 ?k14, DS.Have.mk' KX G ?a15 ?l15 ?d15 ?k15, DS.Have.mk' KX G ?a16 ?l16 ?d16 ?k16, DS.Have.mk' KX G ?a17 ?l17 ?d17 ?k17, DS.Have.mk' KX G ?a18 ?l18 ?d18 ?k18, DS.Have.mk' KX G ?a19 ?l19 ?d19 ?k19, DS.Have.mk' KX G ?a20 ?l20 ?d20 ?k20⟩ ?za ?zl ?zc ?zk
    (case b0 => k_is); (case b1 => k_is); (case b2 => k_is); (case b3 => k_is); (case b4 => k_is); (case b5 => k_is); (case b6 => k_is); (case b7 => k_is); (case b8 => k_is); (case b9 => k_is); (case c0 => k_is); (case c1 => k_is); (case a0 => k_is); (case l0 => k_is); (case d0 => k_is); (case k0 => k_is); (case a1 => k_is); (case l1 => k_is); (case d1 => k_is); (case k1 => k_is); (case a2 => k_is); (case l2 => k_is); (case d2 => k_is); (case k2 => k_is); (case a3 => k_is); (case l3 => k_is); (case d3 => k_is); (case k3 => k_is); (case a4 => k_is); (case l4 => k_is); (case d4 => k_is); (case k4 => k_is); (case a5 => k_is); (case l5 => k_is); (case d5 => k_is); (case k5 => k_is); (case a6 => k_is); (case l6 => k_is); (case d6 => k_is); (case k6 => k_is); (case a7 => k_is); (case l7 => k_is); (case d7 => k_is); (case k7 => k_is); (case a8 => k_is); (case l8 => k_is); (case d8 => k_is); (case k8 => k_is); (case a9 => k_is); (case l9 => k_is); (case d9 => k_is); (case k9 => k_is); (case a10 => k_is); (case l10 => k_is); (case d10 => k_is); (case k10 => k_is); (case a11 => k_is); (case l11 => k_is); (case d11 => k_is); (case k11 => k_is); (case a12 => k_is); (case l12 => k_is); (case d12 => k_is); (case k12 => k_is); (case a13 => k_is); (case l13 => k_is); (case d13 => k_is); (case k13 => k_is); (case a14 => k_is); (case l14 => k_is); (case d14 => k_is); (case k14 => k_is); (case a15 => k_is); (case l15 => k_is); (case d15 => k_is); (case k15 => k_is); (case a16 => k_is); (case l16 => k_is); (case d16 => k_is); (case k16 => k_is); (case a17 => k_is); (case l17 => k_is); (case d17 => k_is); (case k17 => k_is); (case a18 => k_is); (case l18 => k_is); (case d18 => k_is); (case k18 => k_is); (case a19 => k_is); (case l19 => k_is); (case d19 => k_is); (case k19 => k_is); (case a20 => k_is); (case l20 => k_is); (case d20 => k_is); (case k20 => k_is); (case za => k_is); (case zl => k_is); (case zc => k_is); (case zk => k_is)

