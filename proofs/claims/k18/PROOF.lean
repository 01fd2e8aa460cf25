import PyProof.Rows.All
import Wide.All
import OpenK.AllK
import Wide.FinOn
import HandS.ForMost
import HandS.Deep
import HandS.Walk
import HandS.AnyAll
import HandS.Rev
import HandS.Conv
import HandS.Style
import HandS.Flow
import PySem.Challenge.RW_crossloom_k18_grids_and_cubes
import HandS.Zip
import PyProof.GenCompT
import PyProof.ConsumeS
import KE.KDictPairs
import KE.KDictDisplayH
import HandS.SortInts
import HandS.SortRule
import HandS.More
import KE.KDictSum
import PyProof.TupleOfSeq
import HandS.DictTup
import KE.KDictWalk
import PyProof.MinMaxWalk
import PyProof.WalkInts
import HandS.Lambda
import HandS.TryMany
import HandS.List
import HandS.ForExc
import HandS.Iter
import KE.KStateDown
import Lean
import HandS.WordsExc
import HandS.Defaults
import HandS.Head0
import HandS.Head1
import HandS.Head2
import HandS.HeadEnd
import HandS.HeadHook1
import HandS.HeadHook2
import HandS.HeadHook3
import HandS.HeadHook4
import HandS.HeadWalk
set_option Elab.async false
set_option linter.all false
set_option maxRecDepth 100000
set_option maxHeartbeats 2000000
/-! The ground layer: what a reading evaluates to, told as plain data over a base heap B that lies under the actual heap H.
Pf is the address of the one table of code objects that a generator expression of the program may lengthen. -/
namespace K18
open PySem L2

/-! ### heaps that grow -/
def Ex (H H' : Hp) : Prop := ∀ a o, H a = some o → H' a = some o
theorem Ex.refl (H : Hp) : Ex H H := fun _ _ h => h
theorem Ex.trans {H H1 H2 : Hp} (a : Ex H H1) (b : Ex H1 H2) : Ex H H2 := fun x o h => b x o (a x o h)
theorem Ex.new {H : Hp} {p : Addr} {o : HO} (h : H p = none) : Ex H (upd H p o) := fun a u e => by
  rw [upd_ne (ne_of_none e h)]
  exact e
theorem Ex.mut {H H' : Hp} {p : Addr} {o : HO} (e : Ex H H') (h : H p = none) : Ex H (upd H' p o) := fun a u ha => by
  rw [upd_ne (ne_of_none ha h)]
  exact e a u ha
theorem fresh_back {H H' : Hp} {p : Addr} (e : Ex H H') (h : H' p = none) : H p = none := by
  cases h1 : H p with
  | none => rfl
  | some o =>
    rw [e p o h1] at h
    cases h
theorem sz_of {n : Nat} (h : n ≤ 100000) : n ≤ sizeLine := Nat.le_trans h (by decide)
theorem sz_lt {n : Nat} (h : n < 100000) : n < sizeLine := Nat.lt_of_lt_of_le h (by decide)
/-- the actual heap goes on: all stays but the table at Pf, which stays a table -/
structure Ax (Pf : Addr) (H H' : Hp) : Prop where
  keep : ∀ a o, a ≠ Pf → H a = some o → H' a = some o
  tab : GxR.TabG H Pf → GxR.TabG H' Pf
/-- B lies under H -/
structure Sb (Pf : Addr) (B H : Hp) : Prop where
  ex : Ex B H
  no : B Pf = none
  tab : GxR.TabG H Pf
structure Tr (Pf : Addr) (B H B' H' : Hp) : Prop where
  act : Ax Pf H H'
  bas : Ex B B'
  sub : Sb Pf B' H'
  avo : ∀ a o, B a = none → H a = some o → (∀ xs, o ≠ .tup xs) → B' a = none
section
variable {Pf : Addr} {B H B' H' B1 H1 B2 H2 : Hp} {p : Addr} {o : HO}
theorem tab_ne (h : GxR.TabG H Pf) (hp : H p = none) : p ≠ Pf := fun z => by
  obtain ⟨ps, e, _⟩ := h
  rw [z, e] at hp
  cases hp
theorem tab_upd (h : GxR.TabG H Pf) (hp : p ≠ Pf) : GxR.TabG (upd H p o) Pf := by
  obtain ⟨ps, e, r⟩ := h
  exact ⟨ps, by rw [upd_ne (Ne.symm hp)]; exact e, r⟩
theorem Ax.refl (Pf : Addr) (H : Hp) : Ax Pf H H := ⟨fun _ _ _ h => h, fun h => h⟩
theorem Ax.trans (x : Ax Pf H H1) (y : Ax Pf H1 H2) : Ax Pf H H2 := ⟨fun a o n h => y.keep a o n (x.keep a o n h), fun h => y.tab (x.tab h)⟩
theorem Sb.ax (x : Sb Pf B H) (a : Ax Pf H H') : Sb Pf B H' := ⟨fun b u e => a.keep b u (fun z => by rw [z, x.no] at e; cases e) (x.ex b u e), x.no, a.tab x.tab⟩
theorem Sb.at (x : Sb Pf B H) {u : HO} (e : B p = some u) : H p = some u := x.ex p u e
theorem Sb.fresh (x : Sb Pf B H) (h : H p = none) : B p = none := K18.fresh_back x.ex h
theorem Sb.ne (x : Sb Pf B H) (h : H p = none) : p ≠ Pf := tab_ne x.tab h
theorem Ax.new (x : Sb Pf B H) (hp : H p = none) : Ax Pf H (upd H p o) := ⟨fun a u _ e => Ex.new hp a u e, fun h => tab_upd h (x.ne hp)⟩
/-- an object that the first heap does not know is changed -/
theorem Ax.mut (a : Ax Pf H H1) (hp : H p = none) (n : p ≠ Pf) : Ax Pf H (upd H1 p o) := ⟨fun b u nb e => by
    rw [upd_ne (ne_of_none e hp)]
    exact a.keep b u nb e, fun h => tab_upd (a.tab h) n⟩
theorem Sb.mut (x : Sb Pf B H) (hp : B p = none) (n : p ≠ Pf) : Sb Pf B (upd H p o) := ⟨Ex.mut x.ex hp, x.no, tab_upd x.tab n⟩
theorem ax_some (a : Ax Pf H H') {b : Addr} (n : b ≠ Pf) (h : H b ≠ none) : H' b ≠ none := by
  cases q : H b with
  | none => exact absurd q h
  | some u =>
    rw [a.keep b u n q]
    exact fun z => nomatch z
theorem Tr.refl (e : Sb Pf B H) : Tr Pf B H B H := ⟨.refl Pf H, Ex.refl B, e, fun _ _ h _ _ => h⟩
theorem Tr.step (e : Sb Pf B H) (h : Ax Pf H H') : Tr Pf B H B H' := ⟨h, Ex.refl B, e.ax h, fun _ _ h _ _ => h⟩
theorem Tr.trans (x : Tr Pf B H B1 H1) (y : Tr Pf B1 H1 B2 H2) : Tr Pf B H B2 H2 :=
  ⟨x.act.trans y.act, x.bas.trans y.bas, y.sub, fun a u h1 h2 h3 => by
    by_cases z : a = Pf
    · rw [z]
      exact y.sub.no
    · exact y.avo a u (x.avo a u h1 h2 h3) (x.act.keep a u z h2) h3⟩
theorem ex_upd (e : Ex B H) : Ex (upd B p o) (upd H p o) := fun a u h => by
  by_cases q : a = p
  · subst q
    rw [upd_same] at h ⊢
    exact h
  · rw [upd_ne q] at h ⊢
    exact e a u h
theorem Tr.new (e : Sb Pf B H) (hp : H p = none) : Tr Pf B H (upd B p o) (upd H p o) :=
  ⟨.new e hp, Ex.new (e.fresh hp), ⟨ex_upd e.ex, by rw [upd_ne (Ne.symm (e.ne hp))]; exact e.no, tab_upd e.tab (e.ne hp)⟩, fun a u h1 h2 _ => by
    rw [upd_ne (ne_of_none h2 hp)]
    exact h1⟩
/-- two bases under one heap -/
def un (A B : Hp) : Hp := fun a => match A a with
  | some o => some o
  | none => B a
theorem un_l : Ex B1 (un B1 B') := fun a o h => by
  unfold un
  rw [h]
theorem un_r (e1 : Ex B1 H') (e2 : Ex B' H') : Ex B' (un B1 B') := fun a o h => by
  unfold un
  cases q : B1 a with
  | none => exact h
  | some u =>
    have z1 := e1 a u q
    have z2 := e2 a o h
    rw [z1] at z2
    exact z2
theorem un_sub (e1 : Sb Pf B1 H') (e2 : Sb Pf B' H') : Sb Pf (un B1 B') H' := ⟨fun a o h => by
    unfold un at h
    cases q : B1 a with
    | none =>
      rw [q] at h
      exact e2.ex a o h
    | some u =>
      rw [q] at h
      exact e1.ex a o (q.trans h), by
    unfold un
    rw [e1.no]
    exact e2.no, e2.tab⟩
theorem Tr.lift (x : Tr Pf B H B' H') (e : Ex B B1) (e1 : Sb Pf B1 H) : Tr Pf B1 H (un B1 B') H' ∧ Ex B' (un B1 B') := by
  have e2 : Sb Pf B1 H' := e1.ax x.act
  refine ⟨⟨x.act, un_l, un_sub e2 x.sub, fun a u h1 h2 h3 => ?_⟩, un_r e2.ex x.sub.ex⟩
  unfold un
  rw [h1]
  exact x.avo a u (K18.fresh_back e h1) h2 h3
/-- all tuples of a heap: they never change, a base may take them in -/
def tupOf (H : Hp) : Hp := fun a => match H a with
  | some (.tup xs) => some (.tup xs)
  | _ => none
theorem tupOf_sub : Ex (tupOf H) H := fun a o h => by
  unfold tupOf at h
  split at h
  · rename_i xs e
    rw [e]
    exact h
  · cases h
theorem tupOf_at {a : Addr} {xs : List V} (h : H a = some (.tup xs)) : tupOf H a = some (.tup xs) := by
  unfold tupOf
  rw [h]
theorem tupOf_none {a : Addr} {u : HO} (h : H a = some u) (n : ∀ xs, u ≠ .tup xs) : tupOf H a = none := by
  unfold tupOf
  rw [h]
  cases u <;> first | rfl | exact absurd rfl (n _)
theorem Tr.tups (e : Sb Pf B H) : Tr Pf B H (un B (tupOf H)) H := by
  have n : tupOf H Pf = none := by
    obtain ⟨ps, h, _⟩ := e.tab
    exact tupOf_none h fun xs z => nomatch z
  refine ⟨.refl Pf H, un_l, un_sub e ⟨tupOf_sub, n, e.tab⟩, fun a u h1 h2 h3 => ?_⟩
  unfold un
  rw [h1]
  exact tupOf_none h2 h3
theorem tups_at (e : Sb Pf B H) {a : Addr} {xs : List V} (h : H a = some (.tup xs)) : un B (tupOf H) a = some (.tup xs) := un_r e.ex tupOf_sub a _ (tupOf_at h)
end

/-! ### plain data over a heap -/
mutual
inductive R (H : Hp) : V → PyData → Prop
  | non : R H .non .none
  | bl (b : Bool) : R H (.bl b) (.bool b)
  | int (i : Int) : R H (.int i) (.int i)
  | str (x : Str) : R H (.str x) (.str x)
  | lst {a : Addr} {xs : List V} {ds : List PyData} : H a = some (.lst xs) → Rs H xs ds → R H (.ref a) (.list ds)
  | tup {a : Addr} {xs : List V} {ds : List PyData} : H a = some (.tup xs) → Rs H xs ds → R H (.ref a) (.tuple ds)
inductive Rs (H : Hp) : List V → List PyData → Prop
  | nil : Rs H [] []
  | cons {v : V} {vs : List V} {d : PyData} {ds : List PyData} : R H v d → Rs H vs ds → Rs H (v :: vs) (d :: ds)
end
section
variable {B H : Hp}
mutual
theorem R.mono (e : Ex B H) : ∀ (d : PyData) {v : V}, R B v d → R H v d
  | .none, _, h => by cases h; exact .non
  | .bool b, _, h => by cases h; exact .bl b
  | .int i, _, h => by cases h; exact .int i
  | .str x, _, h => by cases h; exact .str x
  | .list ds, _, h => by
    cases h with
    | lst h1 h2 => exact .lst (e _ _ h1) (Rs.mono e ds h2)
  | .tuple ds, _, h => by
    cases h with
    | tup h1 h2 => exact .tup (e _ _ h1) (Rs.mono e ds h2)
  | .dict _, _, h => by cases h
theorem Rs.mono (e : Ex B H) : ∀ (ds : List PyData) {vs : List V}, Rs B vs ds → Rs H vs ds
  | [], _, h => by cases h; exact .nil
  | d :: ds, _, h => by
    cases h with
    | cons h1 h2 => exact .cons (R.mono e d h1) (Rs.mono e ds h2)
end
mutual
theorem R.dp {K : PySem.W.Frag} : ∀ (d : PyData) {v : V}, R B v d → Dp K B v d
  | .none, _, h => by cases h; exact .non
  | .bool b, _, h => by cases h; exact .bl b
  | .int i, _, h => by cases h; exact .int i
  | .str x, _, h => by cases h; exact .str x
  | .list ds, _, h => by
    cases h with
    | lst h1 h2 => exact .lst (SqL.of h1) (Rs.dp ds h2)
  | .tuple ds, _, h => by
    cases h with
    | tup h1 h2 => exact .tup (SqT.of h1) (Rs.dp ds h2)
  | .dict _, _, h => by cases h
theorem Rs.dp {K : PySem.W.Frag} : ∀ (ds : List PyData) {vs : List V}, Rs B vs ds → DpAll K B vs ds
  | [], _, h => by cases h; exact .nil
  | d :: ds, _, h => by
    cases h with
    | cons h1 h2 => exact .cons (R.dp d h1) (Rs.dp ds h2)
end
theorem Rs.length : ∀ {vs : List V} {ds : List PyData}, Rs B vs ds → vs.length = ds.length
  | _, [], h => by cases h; rfl
  | _, d :: ds, h => by
    cases h with
    | cons _ h2 => simp [Rs.length h2]
theorem Rs.get : ∀ {ds : List PyData} {vs : List V} {i : Nat} {d : PyData}, Rs B vs ds → ds[i]? = some d → ∃ v, vs[i]? = some v ∧ R B v d
  | [], _, _, _, _, e => by simp at e
  | d' :: ds, _, 0, d, h, e => by
    cases h with
    | cons h1 _ =>
      have e : d' = d := Option.some.inj e
      subst e
      exact ⟨_, rfl, h1⟩
  | d' :: ds, _, i + 1, d, h, e => by
    cases h with
    | cons _ h2 =>
      obtain ⟨v, e1, e2⟩ := Rs.get (i := i) (d := d) h2 (by simpa using e)
      exact ⟨v, by simpa using e1, e2⟩
theorem Rs.get' : ∀ {ds : List PyData} {vs : List V} {i : Nat} {v : V}, Rs B vs ds → vs[i]? = some v → ∃ d, ds[i]? = some d ∧ R B v d
  | [], _, _, _, h, e => by cases h; simp at e
  | d' :: ds, _, 0, v, h, e => by
    cases h with
    | cons h1 _ =>
      have e := Option.some.inj e
      subst e
      exact ⟨_, rfl, h1⟩
  | d' :: ds, _, i + 1, v, h, e => by
    cases h with
    | cons _ h2 =>
      obtain ⟨d, e1, e2⟩ := Rs.get' (i := i) (v := v) h2 (by simpa using e)
      exact ⟨d, by simpa using e1, e2⟩
theorem Rs.snoc : ∀ {ds : List PyData} {vs : List V} {v : V} {d : PyData}, Rs B vs ds → R B v d → Rs B (vs ++ [v]) (ds ++ [d])
  | [], _, _, _, h, r => by cases h; exact .cons r .nil
  | _ :: _, _, _, _, h, r => by
    cases h with
    | cons h1 h2 => exact .cons h1 (h2.snoc r)
theorem Rs.app : ∀ {ds : List PyData} {vs : List V} {es : List PyData} {ws : List V}, Rs B vs ds → Rs B ws es → Rs B (vs ++ ws) (ds ++ es)
  | [], _, _, _, h, r => by cases h; exact r
  | _ :: _, _, _, _, h, r => by
    cases h with
    | cons h1 h2 => exact .cons h1 (h2.app r)
theorem Rs.ints : ∀ (ns : List Int), Rs B (ns.map V.int) (ns.map PyData.int)
  | [] => .nil
  | n :: ns => .cons (.int n) (Rs.ints ns)
theorem Rs.of_ints : ∀ {ns : List Int} {vs : List V}, Rs B vs (ns.map PyData.int) → vs = ns.map V.int
  | [], _, h => by cases h; rfl
  | n :: ns, _, h => by
    cases h with
    | cons h1 h2 =>
      cases h1
      rw [Rs.of_ints h2]
      rfl
theorem R.int_inv {v : V} {i : Int} (h : R B v (.int i)) : v = .int i := by cases h; rfl
theorem R.bl_inv {v : V} {i : Bool} (h : R B v (.bool i)) : v = .bl i := by cases h; rfl
theorem R.str_inv {v : V} {i : Str} (h : R B v (.str i)) : v = .str i := by cases h; rfl
theorem R.non_inv {v : V} (h : R B v .none) : v = .non := by cases h; rfl
theorem R.lst_inv {v : V} {ds : List PyData} (h : R B v (.list ds)) : ∃ a xs, v = .ref a ∧ B a = some (.lst xs) ∧ Rs B xs ds := by
  cases h with
  | lst h1 h2 => exact ⟨_, _, rfl, h1, h2⟩
theorem R.tup_inv {v : V} {ds : List PyData} (h : R B v (.tuple ds)) : ∃ a xs, v = .ref a ∧ B a = some (.tup xs) ∧ Rs B xs ds := by
  cases h with
  | tup h1 h2 => exact ⟨_, _, rfl, h1, h2⟩
end

/-! ### dicts with tuple keys, with plain keys -/
inductive Kvs {κ : Type} (B : Hp) : List (κ × V) → List (κ × PyData) → Prop
  | nil : Kvs B [] []
  | cons {k : κ} {v : V} {d : PyData} {ks : List (κ × V)} {ds : List (κ × PyData)} : R B v d → Kvs B ks ds → Kvs B ((k, v) :: ks) ((k, d) :: ds)
section
variable {κ : Type} {B H : Hp}
theorem Kvs.mono (e : Ex B H) : ∀ {ks : List (κ × V)} {ds : List (κ × PyData)}, Kvs B ks ds → Kvs H ks ds
  | _, _, .nil => .nil
  | _, _, .cons h t => .cons (h.mono e) (Kvs.mono e t)
theorem Kvs.length : ∀ {ks : List (κ × V)} {ds : List (κ × PyData)}, Kvs B ks ds → ks.length = ds.length
  | _, _, .nil => rfl
  | _, _, .cons _ t => by simp [Kvs.length t]
theorem Kvs.snoc {k : κ} {v : V} {d : PyData} : ∀ {ks : List (κ × V)} {ds : List (κ × PyData)}, Kvs B ks ds → R B v d → Kvs B (ks ++ [(k, v)]) (ds ++ [(k, d)])
  | _, _, .nil, r => .cons r .nil
  | _, _, .cons h t, r => .cons h (t.snoc r)
theorem Kvs.keys : ∀ {ks : List (κ × V)} {ds : List (κ × PyData)}, Kvs B ks ds → ks.map (·.1) = ds.map (·.1)
  | _, _, .nil => rfl
  | _, _, .cons _ t => by simp [Kvs.keys t]
variable [DecidableEq κ]
/-- the value at a key -/
def atD (ds : List (κ × PyData)) (k : κ) : Option PyData := (ds.find? fun kv => decide (kv.1 = k)).map (·.2)
theorem atD_pos {p : κ × PyData} {r : List (κ × PyData)} {k : κ} (e : p.1 = k) : atD (p :: r) k = some p.2 := by simp [atD, List.find?_cons, e]
theorem atD_neg {p : κ × PyData} {r : List (κ × PyData)} {k : κ} (e : ¬ p.1 = k) : atD (p :: r) k = atD r k := by simp [atD, List.find?_cons, e]
theorem Kvs.some {k : κ} {d : PyData} : ∀ {ks : List (κ × V)} {ds : List (κ × PyData)}, Kvs B ks ds → atD ds k = some d → ∃ v, valV ks k = some v ∧ R B v d
  | _, _, .nil, e => by simp [atD] at e
  | _, _, .cons (k := j) (v := v) (d := d') h t, e => by
    by_cases q : j = k
    · rw [atD_pos (p := (j, d')) q] at e
      have e := Option.some.inj e
      subst e
      exact ⟨v, valV_pos (p := (j, v)) q, h⟩
    · rw [atD_neg (p := (j, d')) q] at e
      obtain ⟨v', e1, e2⟩ := t.some e
      exact ⟨v', by rw [valV_neg (p := (j, v)) q]; exact e1, e2⟩
theorem Kvs.none {k : κ} : ∀ {ks : List (κ × V)} {ds : List (κ × PyData)}, Kvs B ks ds → atD ds k = none → valV ks k = none
  | _, _, .nil, _ => rfl
  | _, _, .cons (k := j) (v := v) (d := d') h t, e => by
    by_cases q : j = k
    · rw [atD_pos (p := (j, d')) q] at e
      cases e
    · rw [atD_neg (p := (j, d')) q] at e
      rw [valV_neg (p := (j, v)) q]
      exact t.none e
/-- stored -/
def putD (ds : List (κ × PyData)) (k : κ) (d : PyData) : List (κ × PyData) := if (atD ds k).isSome then ds.map fun kv => if kv.1 = k then (kv.1, d) else kv else ds ++ [(k, d)]
end
section
variable {κ : Type} [DecidableEq κ] {B : Hp}
theorem Kvs.repl {k : κ} {v : V} {d : PyData} (r : R B v d) : ∀ {ks : List (κ × V)} {ds : List (κ × PyData)}, Kvs B ks ds → Kvs B (ks.map fun kv => if kv.1 = k then (kv.1, v) else kv) (ds.map fun kv => if kv.1 = k then (kv.1, d) else kv)
  | _, _, .nil => .nil
  | _, _, .cons (k := j) (v := w) (d := e) h t => by
    simp only [List.map_cons]
    by_cases q : j = k
    · rw [if_pos q, if_pos q]
      exact .cons r (t.repl r)
    · rw [if_neg q, if_neg q]
      exact .cons h (t.repl r)
theorem Kvs.put {k : κ} {v : V} {d : PyData} {ks : List (κ × V)} {ds : List (κ × PyData)} (h : Kvs B ks ds) (r : R B v d) : Kvs B (putK ks k v) (putD ds k d) := by
  unfold putD
  cases q : atD ds k with
  | none =>
    rw [if_neg (by simp), putK_new v (h.none q)]
    exact h.snoc r
  | some e =>
    rw [if_pos (by simp)]
    obtain ⟨w, e1, _⟩ := h.some q
    unfold putK
    rw [valV_any, e1]
    exact h.repl r
end

/-! ### relations between a value and a base; what a reading evaluates to -/
abbrev Rl := V → Hp → Prop
def Mono (r : Rl) : Prop := ∀ v B B', Ex B B' → r v B → r v B'
def rD (d : PyData) : Rl := fun v B => R B v d
def rV (x : V) : Rl := fun v _ => v = x
/-- a dict with tuple keys -/
def rT (m : List (List Key × PyData)) : Rl := fun v B => ∃ a ks, v = .ref a ∧ B a = some (.dT ks) ∧ Kvs B ks m
def rK (m : List (Key × PyData)) : Rl := fun v B => ∃ a ks, v = .ref a ∧ B a = some (.dK ks) ∧ Kvs B ks m
theorem mono_D {d : PyData} : Mono (rD d) := fun _ _ _ e h => R.mono e d h
theorem mono_V {x : V} : Mono (rV x) := fun _ _ _ _ h => h
theorem mono_T {m : List (List Key × PyData)} : Mono (rT m) := fun _ _ _ e ⟨a, ks, h1, h2, h3⟩ => ⟨a, ks, h1, e _ _ h2, h3.mono e⟩
theorem mono_K {m : List (Key × PyData)} : Mono (rK m) := fun _ _ _ e ⟨a, ks, h1, h2, h3⟩ => ⟨a, ks, h1, e _ _ h2, h3.mono e⟩

def Eg (Pf : Addr) (te : TE) (σ : L2.St) (B : Hp) (r : Rl) : Prop := ∀ H, Sb Pf B H → ∀ Q : VK, (∀ v B' H', Tr Pf B H B' H' → r v B' → Q v H') → te σ H Q
abbrev Ed (Pf : Addr) (te : TE) (σ : L2.St) (B : Hp) (d : PyData) : Prop := Eg Pf te σ B (rD d)
def EgA (Pf : Addr) (ta : TA) (σ : L2.St) (B : Hp) (r : List V → Hp → Prop) : Prop := ∀ H, Sb Pf B H → ∀ Q : List V → Hp → Prop, (∀ vs B' H', Tr Pf B H B' H' → r vs B' → Q vs H') → ta σ H Q
def All2 : List Rl → List V → Hp → Prop
  | [], [], _ => True
  | r :: rs, v :: vs, B => r v B ∧ All2 rs vs B
  | _, _, _ => False
abbrev EaA (Pf : Addr) (ta : TA) (σ : L2.St) (B : Hp) (rs : List Rl) : Prop := EgA Pf ta σ B (All2 rs)
/-- a value known by itself; a test -/
def Ev (Pf : Addr) (te : TE) (σ : L2.St) (B : Hp) (x : V) : Prop := ∀ H, Sb Pf B H → ∀ Q : VK, (∀ H', Ax Pf H H' → Q x H') → te σ H Q
def EvT (Pf : Addr) (tt : TT) (σ : L2.St) (B : Hp) (b : Bool) : Prop := ∀ H, Sb Pf B H → ∀ Q : Bool → Hp → Prop, (∀ H', Ax Pf H H' → Q b H') → tt σ H Q
/-- two-place operations by values -/
def RV (Pf : Addr) (r : R2) (x y : V) (B : Hp) (z : V) : Prop := ∀ H, Sb Pf B H → ∀ Q : VK, (∀ H', Ax Pf H H' → Q z H') → r x y H Q
section
variable {Pf : Addr} {σ : L2.St} {B B1 H : Hp} {te ta tb tc : TE} {tt t u : TT} {r r1 r2 : Rl} {d e : PyData} {K : PySem.W.Frag} {x y z : V} {op : R2}
theorem Eg.mono (hm : Mono r) (e : Ex B B1) (h : Eg Pf te σ B r) : Eg Pf te σ B1 r := fun H e1 Q q => h H ⟨e.trans e1.ex, K18.fresh_back e e1.no, e1.tab⟩ Q fun v B' H' t hr =>
  let z := t.lift e e1
  q v _ H' z.1 (hm _ _ _ z.2 hr)
theorem Ed.mono (e : Ex B B1) (h : Ed Pf te σ B d) : Ed Pf te σ B1 d := Eg.mono mono_D e h
theorem Ev.mono (e : Ex B B1) (h : Ev Pf te σ B x) : Ev Pf te σ B1 x := fun H e1 Q q => h H ⟨e.trans e1.ex, K18.fresh_back e e1.no, e1.tab⟩ Q q
theorem EvT.mono {b : Bool} (e : Ex B B1) (h : EvT Pf tt σ B b) : EvT Pf tt σ B1 b := fun H e1 Q q => h H ⟨e.trans e1.ex, K18.fresh_back e e1.no, e1.tab⟩ Q q
theorem Eg.imp (h : Eg Pf te σ B r1) (hi : ∀ v B', Ex B B' → r1 v B' → r2 v B') : Eg Pf te σ B r2 := fun H e Q q => h H e Q fun v B' H' t hr => q v B' H' t (hi v B' t.bas hr)
theorem eg_ev (h : Ev Pf te σ B x) (hr : r x B) : Eg Pf te σ B r := fun H e Q q => h H e Q fun H2 e2 => q x B H2 (.step e e2) hr
theorem ed_int {i : Int} (h : Ev Pf te σ B (.int i)) : Ed Pf te σ B (.int i) := eg_ev h (.int i)
theorem ed_bl {i : Bool} (h : Ev Pf te σ B (.bl i)) : Ed Pf te σ B (.bool i) := eg_ev h (.bl i)
theorem ed_str {i : Str} (h : Ev Pf te σ B (.str i)) : Ed Pf te σ B (.str i) := eg_ev h (.str i)
theorem ev_eg (h : Eg Pf te σ B (rV x)) : Ev Pf te σ B x := fun H e Q q => h H e Q fun v B' H' t hr => by
  have hr : v = x := hr
  rw [hr]
  exact q H' t.act
theorem ev_int {i : Int} (h : Ed Pf te σ B (.int i)) : Ev Pf te σ B (.int i) := ev_eg (h.imp fun v B' _ hr => R.int_inv hr)
theorem ev_bl {i : Bool} (h : Ed Pf te σ B (.bool i)) : Ev Pf te σ B (.bl i) := ev_eg (h.imp fun v B' _ hr => R.bl_inv hr)
theorem eg_var {i : Nat} {v : V} (h : σ[i]? = some (some v)) (hr : r v B) : Eg Pf (tVar i) σ B r := fun H e Q q => ⟨v, h, q v B H (.refl e) hr⟩
theorem eg_c {v : V} (hr : r v B) : Eg Pf (tC v) σ B r := fun H e Q q => q v B H (.refl e) hr
theorem ev_var {i : Nat} (h : σ[i]? = some (some x)) : Ev Pf (tVar i) σ B x := fun H _ _ q => ⟨x, h, q H (.refl Pf H)⟩
theorem ev_c : Ev Pf (tC x) σ B x := fun H _ _ q => q H (.refl Pf H)
theorem ev_is {w : V} (h : Ev Pf te σ B x) (e : x = w) : Ev Pf te σ B w := by
  rw [← e]
  exact h
theorem ev_op (ha : Ev Pf ta σ B x) (hb : Ev Pf tb σ B y) (hr : RV Pf op x y B z) : Ev Pf (tOp op ta tb) σ B z := fun H e Q q =>
  ha H e _ fun H2 e2 => hb H2 (e.ax e2) _ fun H3 e3 => hr H3 ((e.ax e2).ax e3) Q fun H4 e4 => q H4 ((e2.trans e3).trans e4)
theorem rv_I0 {g : Int → Int → V} {i j : Int} : RV Pf (rI0 g) (.int i) (.int j) B (g i j) := fun H _ _ q => ⟨i, j, rfl, rfl, q H (.refl Pf H)⟩
theorem rv_I {C : Int → Int → Prop} {g : Int → Int → V} {i j : Int} (hc : C i j) : RV Pf (rI C g) (.int i) (.int j) B (g i j) := fun H _ _ q => ⟨i, j, rfl, rfl, hc, q H (.refl Pf H)⟩
theorem rv_eq (h : scal x y = true) : RV Pf rEq x y B (.bl (decide (x = y))) := fun H _ _ q => ⟨h, q H (.refl Pf H)⟩
theorem rv_ne (h : scal x y = true) : RV Pf rNe x y B (.bl (!decide (x = y))) := fun H _ _ q => ⟨h, q H (.refl Pf H)⟩
theorem et_test {b : Bool} (h : Ev Pf te σ B (.bl b)) : EvT Pf (tTest te) σ B b := fun H e _ q => h H e _ fun H2 e2 => ⟨b, rfl, q H2 e2⟩
theorem et_B {b : Bool} (h : Ev Pf te σ B (.bl b)) : EvT Pf (tB te) σ B b := fun H e _ q => h H e _ fun H2 e2 => ⟨b, rfl, q H2 e2⟩
theorem et_and {a b : Bool} (h1 : EvT Pf t σ B a) (h2 : a = true → EvT Pf u σ B b) : EvT Pf (tAnd t u) σ B (a && b) := fun H e Q q => h1 H e _ fun H2 e2 => by
  cases a with
  | true =>
    show u σ H2 Q
    exact h2 rfl H2 (e.ax e2) Q fun H3 e3 => q H3 (e2.trans e3)
  | false =>
    show Q false H2
    exact q H2 e2
theorem et_or {a b : Bool} (h1 : EvT Pf t σ B a) (h2 : a = false → EvT Pf u σ B b) : EvT Pf (tOr t u) σ B (a || b) := fun H e Q q => h1 H e _ fun H2 e2 => by
  cases a with
  | true =>
    show Q true H2
    exact q H2 e2
  | false =>
    show u σ H2 Q
    exact h2 rfl H2 (e.ax e2) Q fun H3 e3 => q H3 (e2.trans e3)
theorem et_not {a : Bool} (h1 : EvT Pf t σ B a) : EvT Pf (tNot t) σ B (!a) := fun H e _ q => h1 H e _ fun H2 e2 => q H2 e2
theorem et_is {a b : Bool} (h : EvT Pf t σ B a) (e : a = b) : EvT Pf t σ B b := by
  rw [← e]
  exact h
theorem et_yes : EvT Pf tYes σ B true := fun H _ _ q => q H (.refl Pf H)

/-! arguments, displays -/
theorem ea_nil : EaA Pf tNil σ B [] := fun H e Q q => q [] B H (.refl e) trivial
theorem ea_cons {tr : TA} {rs : List Rl} (hm : Mono r) (h : Eg Pf te σ B r) (hr : ∀ B', Ex B B' → EaA Pf tr σ B' rs) : EaA Pf (tCons te tr) σ B (r :: rs) := fun H e Q q =>
  h H e _ fun v B1 H1 t1 r1 => hr B1 t1.bas H1 t1.sub _ fun vs B2 H2 t2 r2 => q (v :: vs) B2 H2 (t1.trans t2) ⟨hm _ _ _ t2.bas r1, r2⟩
theorem all2_rs : ∀ {ds : List PyData} {vs : List V}, All2 (ds.map rD) vs B → Rs B vs ds
  | [], [], _ => .nil
  | _ :: _, _ :: _, h => .cons h.1 (all2_rs h.2)
  | [], _ :: _, h => h.elim
  | _ :: _, [], h => h.elim
theorem ed_tup {ta : TA} {ds : List PyData} (h : EaA Pf ta σ B (ds.map rD)) (hl : ds.length ≤ 100000) : Ed Pf (tTup ta) σ B (.tuple ds) := fun H e Q q =>
  h H e _ fun vs B1 H1 t1 r1 => by
    have h1 := all2_rs r1
    exact ⟨by rw [h1.length]; exact sz_of hl, fun p hp => q (.ref p) (upd B1 p (.tup vs)) _ (t1.trans (.new t1.sub hp)) (.tup upd_same (h1.mono (Ex.new (t1.sub.fresh hp))))⟩
theorem ed_lst {ta : TA} {ds : List PyData} (h : EaA Pf ta σ B (ds.map rD)) (hl : ds.length ≤ 100000) : Ed Pf (tLst ta) σ B (.list ds) := fun H e Q q =>
  h H e _ fun vs B1 H1 t1 r1 => by
    have h1 := all2_rs r1
    exact ⟨by rw [h1.length]; exact sz_of hl, fun p hp => q (.ref p) (upd B1 p (.lst vs)) _ (t1.trans (.new t1.sub hp)) (.lst upd_same (h1.mono (Ex.new (t1.sub.fresh hp))))⟩

/-! tests, conditional expressions -/
theorem eg_if {b : Bool} (h : EvT Pf tt σ B b) (h1 : b = true → Eg Pf ta σ B r) (h2 : b = false → Eg Pf tb σ B r) : Eg Pf (tIf tt ta tb) σ B r := fun H e Q q => h H e _ fun H1 e1 => by
  cases b with
  | true => exact h1 rfl H1 (e.ax e1) Q fun v B' H' t hr => q v B' H' ((Tr.step e e1).trans t) hr
  | false => exact h2 rfl H1 (e.ax e1) Q fun v B' H' t hr => q v B' H' ((Tr.step e e1).trans t) hr
/-- == and != of data -/
theorem et_eqD (ha : Ed Pf ta σ B d) (hb : ∀ B', Ex B B' → Ed Pf tb σ B' e) (sd : SeqAt.shaped d = true) (se : SeqAt.shaped e = true) : EvT Pf (tTest (tOp (rEqD K) ta tb)) σ B (PyData.eqv d e) := fun H e1 Q q =>
  ha H e1 _ fun v B1 H1 t1 r1 => hb B1 t1.bas H1 t1.sub _ fun w B2 H2 t2 r2 =>
    ⟨d, e, R.dp d (R.mono (t2.bas.trans t2.sub.ex) d r1), R.dp e (R.mono t2.sub.ex e r2), sd, se, _, rfl, q H2 (t1.act.trans t2.act)⟩
theorem et_neD (ha : Ed Pf ta σ B d) (hb : ∀ B', Ex B B' → Ed Pf tb σ B' e) (sd : SeqAt.shaped d = true) (se : SeqAt.shaped e = true) : EvT Pf (tTest (tOp (rNeD K) ta tb)) σ B (!PyData.eqv d e) := fun H e1 Q q =>
  ha H e1 _ fun v B1 H1 t1 r1 => hb B1 t1.bas H1 t1.sub _ fun w B2 H2 t2 r2 =>
    ⟨d, e, R.dp d (R.mono (t2.bas.trans t2.sub.ex) d r1), R.dp e (R.mono t2.sub.ex e r2), sd, se, _, rfl, q H2 (t1.act.trans t2.act)⟩
theorem et_inD {ds : List PyData} (ha : Ed Pf ta σ B d) (hb : ∀ B', Ex B B' → Ed Pf tb σ B' (.list ds)) (sd : SeqAt.shaped d = true) (se : SeqAt.shaped (.list ds) = true) : EvT Pf (tTest (tOp (rInD K) ta tb)) σ B (ds.any fun z => PyData.eqv z d) := fun H e1 Q q =>
  ha H e1 _ fun v B1 H1 t1 r1 => hb B1 t1.bas H1 t1.sub _ fun w B2 H2 t2 r2 =>
    ⟨d, ds, R.dp d (R.mono (t2.bas.trans t2.sub.ex) d r1), R.dp _ (R.mono t2.sub.ex _ r2), sd, se, _, rfl, q H2 (t1.act.trans t2.act)⟩
theorem et_ninD {ds : List PyData} (ha : Ed Pf ta σ B d) (hb : ∀ B', Ex B B' → Ed Pf tb σ B' (.list ds)) (sd : SeqAt.shaped d = true) (se : SeqAt.shaped (.list ds) = true) : EvT Pf (tTest (tOp (rNotInD K) ta tb)) σ B (!ds.any fun z => PyData.eqv z d) := fun H e1 Q q =>
  ha H e1 _ fun v B1 H1 t1 r1 => hb B1 t1.bas H1 t1.sub _ fun w B2 H2 t2 r2 =>
    ⟨d, ds, R.dp d (R.mono (t2.bas.trans t2.sub.ex) d r1), R.dp _ (R.mono t2.sub.ex _ r2), sd, se, _, rfl, q H2 (t1.act.trans t2.act)⟩
theorem et_cmpI {g : Int → Int → V} {i j : Int} {b : Bool} (ha : Ev Pf ta σ B (.int i)) (hb : Ev Pf tb σ B (.int j)) (hg : g i j = .bl b) : EvT Pf (tTest (tOp (rI0 g) ta tb)) σ B b := et_test (ev_is (ev_op ha hb rv_I0) hg)

/-! subscripts of data -/
theorem at_data {ds : List PyData} {xs : List V} {i : Int} (h2 : Rs B xs ds) (hi : atI ds i = some d) : ∃ x, atI xs i = some x ∧ R B x d := by
  obtain ⟨j, hj, hz⟩ : ∃ j, ixN ds.length i = some j ∧ ds[j]? = some d := by
    unfold atI at hi
    cases z : ixN ds.length i with
    | none =>
      rw [z] at hi
      cases hi
    | some j =>
      rw [z] at hi
      exact ⟨j, rfl, hi⟩
  obtain ⟨x, hx, rx⟩ := h2.get hz
  refine ⟨x, ?_, rx⟩
  unfold atI
  rw [h2.length, hj]
  exact hx
theorem ed_ixL {i : Int} {ds : List PyData} (ha : Ed Pf ta σ B (.list ds)) (hb : ∀ B', Ex B B' → Ev Pf tb σ B' (.int i)) (hi : atI ds i = some d) : Ed Pf (tOp (rIxL K) ta tb) σ B d := fun H e Q q =>
  ha H e _ fun v B1 H1 t1 r1 => by
    obtain ⟨a, xs, ev, h1, h2⟩ := R.lst_inv r1
    subst ev
    refine hb B1 t1.bas H1 t1.sub _ fun H2 e2 => ?_
    obtain ⟨x, hx, rx⟩ := at_data h2 hi
    exact ⟨a, xs, i, x, rfl, rfl, SqL.of ((t1.sub.ax e2).at h1), hx, q x B1 H2 (t1.trans (.step t1.sub e2)) rx⟩
theorem ed_ixT {i : Int} {ds : List PyData} (ha : Ed Pf ta σ B (.tuple ds)) (hb : ∀ B', Ex B B' → Ev Pf tb σ B' (.int i)) (hi : atI ds i = some d) : Ed Pf (tOp (rIxT K) ta tb) σ B d := fun H e Q q =>
  ha H e _ fun v B1 H1 t1 r1 => by
    obtain ⟨a, xs, ev, h1, h2⟩ := R.tup_inv r1
    subst ev
    refine hb B1 t1.bas H1 t1.sub _ fun H2 e2 => ?_
    obtain ⟨x, hx, rx⟩ := at_data h2 hi
    exact ⟨a, xs, i, x, rfl, rfl, SqT.of ((t1.sub.ax e2).at h1), hx, q x B1 H2 (t1.trans (.step t1.sub e2)) rx⟩

/-! ### promises of pure defs -/
def Pr (Pf : Addr) (pre : List V → Hp → Rl → Prop) : Sp := fun vs H Q _ => ∃ B r, Sb Pf B H ∧ pre vs B r ∧ ∀ v B' H', Tr Pf B H B' H' → r v B' → Q v H'
theorem eg_call {pre : List V → Hp → Rl → Prop} {E : XK} {ta : TA} {rs : List Rl} (h : EaA Pf ta σ B rs) (hp : ∀ vs B', Ex B B' → All2 rs vs B' → pre vs B' r) : Eg Pf (tCall (Pr Pf pre) [] E ta) σ B r := fun H e Q q =>
  h H e _ fun vs B1 H1 t1 r1 => by
    rw [List.append_nil]
    exact ⟨B1, r, t1.sub, hp vs B1 t1.bas r1, fun v B2 H2 t2 r2 => q v B2 H2 (t1.trans t2) r2⟩
theorem eg_meth {pre : List V → Hp → Rl → Prop} {E : XK} {t : TA} {rs : List Rl} {C p dx : Addr} {m : Str} {fs : List (Str × V)} (ho : Ev Pf ta σ B (.ref p)) (hb : B p = some (.ins C dx fs)) (hm : fs.lookup m = none)
    (h : EaA Pf t σ B rs) (hp : ∀ vs B', Ex B B' → All2 rs vs B' → pre (.ref p :: vs) B' r) : Eg Pf (tMeth C m (Pr Pf pre) [] E ta t) σ B r := fun H e Q q =>
  ho H e _ fun H1 e1 => ⟨p, dx, fs, rfl, (e.ax e1).at hb, hm, h H1 (e.ax e1) _ fun vs B1 H2 t1 r1 => by
    rw [List.append_nil]
    exact ⟨B1, r, t1.sub, hp vs B1 t1.bas r1, fun v B2 H3 t2 r2 => q v B2 H3 (((Tr.step e e1).trans t1).trans t2) r2⟩⟩
/-- fields of an instance that stands in the base -/
theorem ev_fld {C p dx : Addr} {f : Str} {fs : List (Str × V)} (ho : Ev Pf ta σ B (.ref p)) (hb : B p = some (.ins C dx fs)) (c : Cls K C) (n : NoAttr K C f) (l : fs.lookup f = some x) : Ev Pf (tFld K ta f) σ B x := fun H e Q q =>
  ho H e _ fun H1 e1 => ⟨p, C, dx, fs, x, rfl, (e.ax e1).at hb, c, n, l, q H1 e1⟩

/-! ### statements -/
variable {D : Ends} {tu tw tz : TS}
theorem s_asgG {i : Nat} (h : Eg Pf te σ B r) (e : Sb Pf B H) (k : ∀ v B' H', Tr Pf B H B' H' → r v B' → D.nx (σ.set i (some v)) H') : tAsg te (gName i) D σ H := h H e _ k
theorem q_asgG {i : Nat} (h : Eg Pf te σ B r) (e : Sb Pf B H) (k : ∀ v B' H', Tr Pf B H B' H' → r v B' → tz D (σ.set i (some v)) H') : tSeq (tAsg te (gName i)) tz D σ H := h H e _ k
theorem s_retG (h : Eg Pf te σ B r) (e : Sb Pf B H) (k : ∀ v B' H', Tr Pf B H B' H' → r v B' → D.rt v H') : tRet te D σ H := h H e _ k
theorem s_ifT {b : Bool} (h : EvT Pf tt σ B b) (e : Sb Pf B H) (h1 : b = true → ∀ H1, Ax Pf H H1 → tu D σ H1) (h2 : b = false → ∀ H1, Ax Pf H H1 → tw D σ H1) : tIfS tt tu tw D σ H := h H e _ fun H1 e1 => by
  cases b with
  | true => exact h1 rfl H1 e1
  | false => exact h2 rfl H1 e1
end
end K18

set_option Elab.async false
set_option linter.all false
set_option maxRecDepth 100000
set_option maxHeartbeats 2000000
/-! What is walked, as data; comprehensions over it. -/
namespace K18
open PySem L2

/-- the walk of wi gives the data ds, one by one, and makes nothing -/
def Itd (Pf : Addr) (wi : TI) (σ : L2.St) (B : Hp) (ds : List PyData) : Prop := ∀ H, Sb Pf B H → ∀ P : It → Hp → Prop,
  (∀ (J : It) (G : Hp → Prop) (Y : Nat → Hp → V → Hp → Prop) (B' H' : Hp), Tr Pf B H B' H' → Walk J ds.length G Y → (∀ H3, Ex B' H3 → G H3) →
    (∀ i H3 x H4, i < ds.length → Ex B' H3 → Y i H3 x H4 → H4 = H3 ∧ ∃ d, ds[i]? = some d ∧ R B' x d) → P J H') → wi σ H P
section
variable {Pf : Addr} {σ : L2.St} {B B1 H : Hp} {te tl : TE} {tt : TT} {d e : PyData} {K : PySem.W.Frag} {ds : List PyData} {wi wi1 : TI}
theorem Itd.mono (e : Ex B B1) (h : Itd Pf wi σ B ds) : Itd Pf wi σ B1 ds := fun H e1 P k => h H ⟨e.trans e1.ex, K18.fresh_back e e1.no, e1.tab⟩ P fun J G Y B' H' t w hg hy =>
  let z := t.lift e e1
  k J G Y (un B1 B') H' z.1 w (fun H3 e3 => hg H3 (z.2.trans e3)) fun i H3 x H4 hi e3 y => by
    obtain ⟨h1, d, h2, h3⟩ := hy i H3 x H4 hi (z.2.trans e3) y
    exact ⟨h1, d, h2, R.mono z.2 d h3⟩
theorem itd_list (h : Ed Pf tl σ B (.list ds)) : Itd Pf (iList K tl) σ B ds := fun H e P k => h H e _ fun v B' H' t r => by
  obtain ⟨a, xs, ev, h1, h2⟩ := R.lst_inv r
  subst ev
  refine ⟨a, rfl, ⟨xs, SqL.of (t.sub.at h1)⟩, k (Itl K a) (fun H => SqL K H a xs) (YAt xs) B' H' t (by rw [← h2.length]; exact walk_list) (fun H3 e3 => SqL.of (e3 _ _ h1)) fun i H3 x H4 hi e3 y => ?_⟩
  obtain ⟨d, e1, e2⟩ := h2.get' y.2
  exact ⟨y.1, d, e1, e2⟩
theorem itd_tup (h : Ed Pf tl σ B (.tuple ds)) : Itd Pf (iTup K tl) σ B ds := fun H e P k => h H e _ fun v B' H' t r => by
  obtain ⟨a, xs, ev, h1, h2⟩ := R.tup_inv r
  subst ev
  refine ⟨a, rfl, ⟨xs, SqT.of (t.sub.at h1)⟩, k (Itt K a) (fun H => SqT K H a xs) (YAt xs) B' H' t (by rw [← h2.length]; exact walk_tup) (fun H3 e3 => SqT.of (e3 _ _ h1)) fun i H3 x H4 hi e3 y => ?_⟩
  obtain ⟨d, e1, e2⟩ := h2.get' y.2
  exact ⟨y.1, d, e1, e2⟩
theorem itd_rev (h : Ed Pf tl σ B (.list ds)) : Itd Pf (iRev K (tCons tl tNil)) σ B ds.reverse := fun H e P k => h H e _ fun v B' H' t r => by
  obtain ⟨a, xs, ev, h1, h2⟩ := R.lst_inv r
  subst ev
  refine ⟨a, xs, rfl, SqL.of (t.sub.at h1), k (Itv K a xs.length) (fun H => SqL K H a xs) _ B' H' t (by rw [List.length_reverse, ← h2.length]; exact walk_rev) (fun H3 e3 => SqL.of (e3 _ _ h1)) fun i H3 x H4 hi e3 y => ?_⟩
  obtain ⟨d, e1, e2⟩ := h2.get' y.2
  rw [List.length_reverse] at hi
  refine ⟨y.1, d, ?_, e2⟩
  rw [List.getElem?_reverse hi, ← h2.length]
  exact e1
/-- range's ints -/
def rgD (lo : Int) (n : Nat) : List PyData := (List.range n).map fun (i : Nat) => PyData.int (lo + (i : Int))
theorem rgD_len (lo : Int) (n : Nat) : (rgD lo n).length = n := by unfold rgD; rw [List.length_map, List.length_range]
theorem rgD_get {lo : Int} {n i : Nat} (h : i < n) : (rgD lo n)[i]? = some (.int (lo + (i : Int))) := by
  unfold rgD
  rw [List.getElem?_map, List.getElem?_range h]
  rfl
theorem rgD_mem {lo : Int} {n : Nat} {d : PyData} (h : d ∈ rgD lo n) : ∃ i, i < n ∧ d = .int (lo + (i : Int)) := by
  obtain ⟨i, h1, h2⟩ := List.mem_map.mp h
  exact ⟨i, List.mem_range.mp h1, h2.symm⟩
theorem itd_range1 {n : Nat} (h : Ev Pf te σ B (.int (n : Int))) (hn : n ≤ 100000) : Itd Pf (iRng1 (tCons te tNil)) σ B (rgD 0 n) := fun H e P k => h H e _ fun H' e' => by
  refine ⟨(n : Int), rfl, by omega, by omega, k (Itr 0 (n : Int).toNat) (fun _ => True) _ B H' (.step e e') (by rw [rgD_len]; exact walk_range) (fun _ _ => trivial) fun i H3 x H4 hi e3 y => ?_⟩
  rw [rgD_len] at hi
  refine ⟨y.1, _, rgD_get hi, ?_⟩
  rw [y.2]
  exact .int _
theorem itd_range2 {a b : TE} {lo hi : Int} (h1 : Ev Pf a σ B (.int lo)) (h2 : Ev Pf b σ B (.int hi)) (hl : 0 ≤ lo ∧ lo ≤ 100000 ∧ 0 ≤ hi ∧ hi ≤ 100000) : Itd Pf (iRng2 (tCons a (tCons b tNil))) σ B (rgD lo (hi - lo).toNat) := fun H e P k => h1 H e _ fun H1 e1 => h2 H1 (e.ax e1) _ fun H' e' => by
  refine ⟨lo, hi, rfl, by omega, k (Itr lo (hi - lo).toNat) (fun _ => True) _ B H' ((Tr.step e e1).trans (.step (e.ax e1) e')) (by rw [rgD_len]; exact walk_range) (fun _ _ => trivial) fun i H3 x H4 hi e3 y => ?_⟩
  rw [rgD_len] at hi
  refine ⟨y.1, _, rgD_get hi, ?_⟩
  rw [y.2]
  exact .int _

/-! ### comprehensions -/
theorem filter_take_yes {f : PyData → Bool} {m : PyData → PyData} {ds : List PyData} {i : Nat} {d : PyData} (h : ds[i]? = some d) (hf : f d = true) : ((ds.take (i + 1)).filter f).map m = ((ds.take i).filter f).map m ++ [m d] := by
  rw [List.take_add_one, h, List.filter_append, List.map_append]
  show _ ++ (List.filter f [d]).map m = _
  rw [List.filter_cons, if_pos hf]
  rfl
theorem filter_take_no {f : PyData → Bool} {m : PyData → PyData} {ds : List PyData} {i : Nat} {d : PyData} (h : ds[i]? = some d) (hf : f d = false) : ((ds.take (i + 1)).filter f).map m = ((ds.take i).filter f).map m := by
  rw [List.take_add_one, h, List.filter_append, List.map_append]
  show _ ++ (List.filter f [d]).map m = _
  rw [List.filter_cons, if_neg (by rw [hf]; exact Bool.false_ne_true)]
  exact List.append_nil _
theorem filter_take_len (f : PyData → Bool) (m : PyData → PyData) (ds : List PyData) (i : Nat) : (((ds.take i).filter f).map m).length ≤ ds.length := by
  rw [List.length_map]
  refine Nat.le_trans (List.length_filter_le _ _) ?_
  rw [List.length_take]
  omega
/-- what holds within a comprehension: H1, B1 at its start, D the list that grows -/
def Inn (Pf : Addr) (B1 H1 : Hp) (D : Addr) (done : List PyData) (Bc Hc : Hp) : Prop :=
  ∃ acc, Ax Pf H1 Hc ∧ Ex B1 Bc ∧ Sb Pf Bc Hc ∧ (∀ a o, B1 a = none → H1 a = some o → (∀ xs, o ≠ .tup xs) → Bc a = none) ∧ Bc D = none ∧ Hc D = some (.lst acc) ∧ Rs Bc acc done
theorem inn_bas {D : Addr} {B1 H1 Bc Hc : Hp} {done : List PyData} (x : Inn Pf B1 H1 D done Bc Hc) : Ex B1 Bc ∧ Sb Pf Bc Hc :=
  let ⟨_, _, h1, h2, _⟩ := x
  ⟨h1, h2⟩
theorem inn_start {D : Addr} {B1 H1 : Hp} (e : Sb Pf B1 H1) (hD : H1 D = none) : Inn Pf B1 H1 D [] B1 (upd H1 D (.lst [])) :=
  ⟨[], .new e hD, Ex.refl _, e.mut (e.fresh hD) (e.ne hD), fun _ _ h _ _ => h, e.fresh hD, upd_same, .nil⟩
theorem inn_ax {D : Addr} {B1 H1 Bc Hc H2 : Hp} {done : List PyData} (n : D ≠ Pf) (x : Inn Pf B1 H1 D done Bc Hc) (a : Ax Pf Hc H2) : Inn Pf B1 H1 D done Bc H2 := by
  obtain ⟨acc, a1, a2, a3, a4, a5, a6, a7⟩ := x
  exact ⟨acc, a1.trans a, a2, a3.ax a, a4, a5, a.keep _ _ n a6, a7⟩
theorem inn_tr {D : Addr} {B1 H1 Bc Hc B2 H2 : Hp} {done : List PyData} (n : D ≠ Pf) (x : Inn Pf B1 H1 D done Bc Hc) (t : Tr Pf Bc Hc B2 H2) : Inn Pf B1 H1 D done B2 H2 := by
  obtain ⟨acc, a1, a2, a3, a4, a5, a6, a7⟩ := x
  refine ⟨acc, a1.trans t.act, a2.trans t.bas, t.sub, fun a u h1 h2 h3 => ?_, t.avo D _ a5 a6 (fun xs z => nomatch z), t.act.keep _ _ n a6, Rs.mono t.bas _ a7⟩
  by_cases z : a = Pf
  · rw [z]
    exact t.sub.no
  · exact t.avo a u (a4 a u h1 h2 h3) (a1.keep a u z h2) h3
theorem inn_snoc {D : Addr} {B1 H1 Bc Hc : Hp} {done : List PyData} {y : V} (n : D ≠ Pf) (hD : H1 D = none) (x : Inn Pf B1 H1 D done Bc Hc) (r : R Bc y d) (hl : done.length < 100000) :
    ∃ acc, Hc D = some (.lst acc) ∧ acc.length < sizeLine ∧ Inn Pf B1 H1 D (done ++ [d]) Bc (upd Hc D (.lst (acc ++ [y]))) := by
  obtain ⟨acc, a1, a2, a3, a4, a5, a6, a7⟩ := x
  exact ⟨acc, a6, by rw [a7.length]; exact sz_lt hl, acc ++ [y], a1.mut hD n, a2, a3.mut a5 n, a4, a5, upd_same, a7.snoc r⟩
theorem inn_end {D : Addr} {B B1 H1 Bc Hc : Hp} {done : List PyData} (t : Tr Pf B H B1 H1) (hD : H1 D = none) (x : Inn Pf B1 H1 D done Bc Hc) : ∃ B2, Tr Pf B H B2 Hc ∧ R B2 (.ref D) (.list done) := by
  obtain ⟨acc, a1, a2, a3, a4, a5, a6, a7⟩ := x
  refine ⟨upd Bc D (.lst acc), t.trans ⟨a1, a2.trans (Ex.new a5), ⟨fun a o h => ?_, ?_, a3.tab⟩, fun a u h1 h2 h3 => ?_⟩, .lst upd_same (Rs.mono (Ex.new a5) _ a7)⟩
  · by_cases z : a = D
    · rw [z] at h ⊢
      rw [upd_same] at h
      rw [← h]
      exact a6
    · rw [upd_ne z] at h
      exact a3.ex a o h
  · rw [upd_ne (Ne.symm (t.sub.ne hD))]
    exact a3.no
  · rw [upd_ne (ne_of_none h2 hD)]
    exact a4 a u h1 h2 h3
/-- [te for g in wi if tt]; g binds the item x of data d: Bd tells the slots then -/
theorem ed_lc_g {g : TG} {vs : List Nat} (f : PyData → Bool) (m : PyData → PyData) (hi : Itd Pf wi σ B ds) (hz : ds.length ≤ 50000) (Bd : PyData → L2.St → Hp → Prop)
    (hg : ∀ d ∈ ds, ∀ x B1 H1, Ex B B1 → Sb Pf B1 H1 → R B1 x d → ∀ P : L2.St → Hp → Prop, (∀ σ2, wipe σ2 vs = wipe σ vs → Bd d σ2 B1 → P σ2 H1) → g x (wipe σ vs) H1 P)
    (ht : ∀ d ∈ ds, ∀ σ2 B1, Ex B B1 → Bd d σ2 B1 → EvT Pf tt σ2 B1 (f d)) (he : ∀ d ∈ ds, f d = true → ∀ σ2 B1, Ex B B1 → Bd d σ2 B1 → Ed Pf te σ2 B1 (m d)) :
    Ed Pf (tLc wi g tt te vs) σ B (.list ((ds.filter f).map m)) := fun H e Q q => hi H e _ fun J G Y B' H' t w hG hY D hD => by
  have n := t.sub.ne hD
  refine lc_it w (fun i Hc => ∃ Bc, Inn Pf B' H' D (((ds.take i).filter f).map m) Bc Hc)
    ⟨B', inn_start t.sub hD⟩ (fun i Hc _ ⟨Bc, acc, _, h1, h2, _⟩ => hG Hc (h1.trans h2.ex)) ?_ ?_
  · rintro i x Hc H4 hi ⟨Bc, x0⟩ hy
    have a2 : Ex B' Bc := (inn_bas x0).1
    have a3 : Sb Pf Bc Hc := (inn_bas x0).2
    obtain ⟨e4, d, hd, rx⟩ := hY i Hc x H4 hi (a2.trans a3.ex) hy
    subst e4
    have dm : d ∈ ds := List.mem_of_getElem? hd
    refine hg d dm x Bc H4 (t.bas.trans a2) a3 (R.mono a2 d rx) _ fun σ2 hw hb => ⟨hw, ?_⟩
    refine ht d dm σ2 Bc (t.bas.trans a2) hb H4 a3 _ fun H5 e5 => ?_
    cases hf : f d with
    | true =>
      show te σ2 H5 _
      refine he d dm hf σ2 Bc (t.bas.trans a2) hb H5 (a3.ax e5) _ fun y B6 H6 t6 r6 => ?_
      have l6 : (((ds.take i).filter f).map m).length < 100000 := Nat.lt_of_le_of_lt (filter_take_len f m ds i) (by omega)
      obtain ⟨acc, h1, h2, h3⟩ := inn_snoc n hD (inn_tr n (inn_ax n x0 e5) t6) r6 l6
      exact ⟨acc, h1, h2, B6, by rw [filter_take_yes hd hf]; exact h3⟩
    | false =>
      show ∃ Bc, _
      refine ⟨Bc, ?_⟩
      rw [filter_take_no hd hf]
      exact inn_ax n x0 e5
  · rintro Hc ⟨Bc, x0⟩
    rw [List.take_of_length_le (Nat.le_refl _)] at x0
    obtain ⟨B2, t2, r2⟩ := inn_end t hD x0
    exact q (.ref D) B2 Hc t2 r2
/-- the target is a name, slot j -/
theorem ed_lc {j : Nat} {vs : List Nat} (f : PyData → Bool) (m : PyData → PyData) (hi : Itd Pf wi σ B ds) (hz : ds.length ≤ 50000) (hw : ∀ x, wipe ((wipe σ vs).set j (some x)) vs = wipe σ vs)
    (ht : ∀ d ∈ ds, ∀ x B1, Ex B B1 → R B1 x d → EvT Pf tt ((wipe σ vs).set j (some x)) B1 (f d)) (he : ∀ d ∈ ds, f d = true → ∀ x B1, Ex B B1 → R B1 x d → Ed Pf te ((wipe σ vs).set j (some x)) B1 (m d)) :
    Ed Pf (tLc wi (gName j) tt te vs) σ B (.list ((ds.filter f).map m)) :=
  ed_lc_g f m hi hz (fun d σ2 B1 => ∃ x, R B1 x d ∧ σ2 = (wipe σ vs).set j (some x)) (fun d _ x B1 H1 e1 e2 rx P k => k _ (hw x) ⟨x, rx, rfl⟩)
    (fun d hd σ2 B1 e1 ⟨x, rx, es⟩ => by rw [es]; exact ht d hd x B1 e1 rx) (fun d hd hf σ2 B1 e1 ⟨x, rx, es⟩ => by rw [es]; exact he d hd hf x B1 e1 rx)
/-- .. without a test -/
theorem ed_lc1 {j : Nat} {vs : List Nat} (m : PyData → PyData) (hi : Itd Pf wi σ B ds) (hz : ds.length ≤ 50000) (hw : ∀ x, wipe ((wipe σ vs).set j (some x)) vs = wipe σ vs)
    (he : ∀ d ∈ ds, ∀ x B1, Ex B B1 → R B1 x d → Ed Pf te ((wipe σ vs).set j (some x)) B1 (m d)) : Ed Pf (tLc wi (gName j) tYes te vs) σ B (.list (ds.map m)) := by
  have z := ed_lc (tt := tYes) (te := te) (fun _ => true) m hi hz hw (fun _ _ _ _ _ _ => et_yes) (fun d hd _ => he d hd)
  rw [List.filter_eq_self.mpr (fun _ _ => rfl)] at z
  exact z
/-- the target is a pair of names, slots j and k -/
theorem ed_lcP {j k : Nat} {vs : List Nat} (f : PyData → Bool) (m : PyData → PyData) (hi : Itd Pf wi σ B ds) (hz : ds.length ≤ 50000) (hw : ∀ x y, wipe (((wipe σ vs).set j (some x)).set k (some y)) vs = wipe σ vs)
    (hp : ∀ d ∈ ds, ∃ a b, d = .tuple [a, b])
    (ht : ∀ a b, PyData.tuple [a, b] ∈ ds → ∀ x y B1, Ex B B1 → R B1 x a → R B1 y b → EvT Pf tt (((wipe σ vs).set j (some x)).set k (some y)) B1 (f (.tuple [a, b])))
    (he : ∀ a b, PyData.tuple [a, b] ∈ ds → f (.tuple [a, b]) = true → ∀ x y B1, Ex B B1 → R B1 x a → R B1 y b → Ed Pf te (((wipe σ vs).set j (some x)).set k (some y)) B1 (m (.tuple [a, b]))) :
    Ed Pf (tLc wi (gTup K 2 (gCons (gName j) (gCons (gName k) gNil))) tt te vs) σ B (.list ((ds.filter f).map m)) :=
  ed_lc_g f m hi hz (fun d σ2 B1 => ∃ a b x y, d = .tuple [a, b] ∧ R B1 x a ∧ R B1 y b ∧ σ2 = ((wipe σ vs).set j (some x)).set k (some y))
    (fun d hd x B1 H1 e1 e2 rx P kk => by
      obtain ⟨a, b, ed⟩ := hp d hd
      subst ed
      obtain ⟨q, xs, ex, h1, h2⟩ := R.tup_inv rx
      subst ex
      cases h2 with
      | cons ra h2 =>
        cases h2 with
        | cons rb h2 =>
          cases h2
          exact ⟨q, _, rfl, SqT.of (e2.at h1), rfl, _, _, rfl, _, _, rfl, rfl, kk _ (hw _ _) ⟨a, b, _, _, rfl, ra, rb, rfl⟩⟩)
    (fun d hd σ2 B1 e1 ⟨a, b, x, y, ed, ra, rb, es⟩ => by
      subst ed
      rw [es]
      exact ht a b hd x y B1 e1 ra rb)
    (fun d hd hf σ2 B1 e1 ⟨a, b, x, y, ed, ra, rb, es⟩ => by
      subst ed
      rw [es]
      exact he a b hd hf x y B1 e1 ra rb)

/-! ### two clauses, two names, no tests -/
theorem ed_lc2 {j k : Nat} {vs vs1 : List Nat} (es : PyData → List PyData) (m : PyData → PyData → PyData) (hi : Itd Pf wi σ B ds) (hz : (ds.flatMap es).length ≤ 50000) (hw : ∀ x, wipe ((wipe σ vs).set j (some x)) vs = wipe σ vs)
    (hw1 : ∀ x y, wipe ((wipe ((wipe σ vs).set j (some x)) vs1).set k (some y)) vs1 = wipe ((wipe σ vs).set j (some x)) vs1)
    (hi1 : ∀ d ∈ ds, ∀ x B1, Ex B B1 → R B1 x d → Itd Pf wi1 ((wipe σ vs).set j (some x)) B1 (es d))
    (he : ∀ d ∈ ds, ∀ e ∈ es d, ∀ x y B1, Ex B B1 → R B1 x d → R B1 y e → Ed Pf te ((wipe ((wipe σ vs).set j (some x)) vs1).set k (some y)) B1 (m d e)) :
    Ed Pf (tLc2 wi (gName j) tYes wi1 (gName k) tYes te vs vs1) σ B (.list (ds.flatMap fun d => (es d).map (m d))) := fun H e Q q => hi H e _ fun J G Y B' H' t w hG hY D hD => by
  have n := t.sub.ne hD
  refine ⟨fun i mm Hc => mm = ds.length - i ∧ i ≤ ds.length ∧ ∃ Bc, Inn Pf B' H' D ((ds.take i).flatMap fun d => (es d).map (m d)) Bc Hc, ⟨ds.length, by simp, Nat.zero_le _, B', inn_start t.sub hD⟩, ?_⟩
  rintro i mm Hc ⟨rfl, hle, Bc, x0⟩
  have a2 : Ex B' Bc := (inn_bas x0).1
  have a3 : Sb Pf Bc Hc := (inn_bas x0).2
  by_cases hlt : i < ds.length
  · refine .inr ⟨w.goes i Hc hlt (hG Hc (a2.trans a3.ex)), fun H2 => ∃ Bc, Inn Pf B' H' D ((ds.take (i + 1)).flatMap fun d => (es d).map (m d)) Bc H2, fun H2 p2 => ⟨ds.length - (i + 1), by omega, rfl, hlt, p2⟩, fun x H4 hy => ?_⟩
    obtain ⟨e4, d, hd, rx⟩ := hY i Hc x H4 hlt (a2.trans a3.ex) (w.yields i Hc x H4 hlt (hG Hc (a2.trans a3.ex)) hy)
    subst e4
    have dm : d ∈ ds := List.mem_of_getElem? hd
    have edone : (ds.take (i + 1)).flatMap (fun d => (es d).map (m d)) = (ds.take i).flatMap (fun d => (es d).map (m d)) ++ (es d).map (m d) := by
      rw [List.take_add_one, hd, List.flatMap_append]
      show _ ++ List.flatMap _ [d] = _
      rw [List.flatMap_singleton]
    refine ⟨hw x, ?_⟩
    show wi1 _ H4 _
    have bnd : ((ds.take i).flatMap fun d => (es d).map (m d)).length + (es d).length ≤ 50000 := by
      have h1 : ((ds.take i).flatMap fun d => (es d).map (m d)).length + (es d).length = ((ds.take (i + 1)).flatMap es).length := by
        rw [List.take_add_one, hd, List.flatMap_append, List.length_append]
        show _ = _ + (List.flatMap es [d]).length
        rw [List.flatMap_singleton, List.length_flatMap, List.length_flatMap]
        simp only [List.length_map]
      have h2 : ((ds.take (i + 1)).flatMap es).length ≤ (ds.flatMap es).length := by
        conv => rhs; rw [← List.take_append_drop (i + 1) ds, List.flatMap_append, List.length_append]
        omega
      omega
    refine hi1 d dm x Bc (t.bas.trans a2) (R.mono a2 d rx) H4 a3 _ fun J1 G1 Y1 B1 H5 t1 w1 hG1 hY1 => ?_
    refine ⟨fun k' mm Hx => mm = (es d).length - k' ∧ k' ≤ (es d).length ∧ ∃ Bx, Ex B1 Bx ∧ Inn Pf B' H' D (((ds.take i).flatMap fun d => (es d).map (m d)) ++ ((es d).take k').map (m d)) Bx Hx,
      ⟨(es d).length, by simp, Nat.zero_le _, B1, Ex.refl _, by simpa using inn_tr n x0 t1⟩, ?_⟩
    rintro k' mm Hx ⟨rfl, hle1, Bx, b2', x1⟩
    have b2 : Ex B' Bx := (inn_bas x1).1
    have b3 : Sb Pf Bx Hx := (inn_bas x1).2
    by_cases hlt1 : k' < (es d).length
    · refine .inr ⟨w1.goes k' Hx hlt1 (hG1 Hx (b2'.trans b3.ex)), fun Hy => ∃ Bx, Ex B1 Bx ∧ Inn Pf B' H' D (((ds.take i).flatMap fun d => (es d).map (m d)) ++ ((es d).take (k' + 1)).map (m d)) Bx Hy,
        fun H2 p2 => ⟨(es d).length - (k' + 1), by omega, rfl, hlt1, p2⟩, fun y H6 hy1 => ?_⟩
      obtain ⟨e6, dd, hdd, ry⟩ := hY1 k' Hx y H6 hlt1 (b2'.trans b3.ex) (w1.yields k' Hx y H6 hlt1 (hG1 Hx (b2'.trans b3.ex)) hy1)
      subst e6
      have ddm : dd ∈ es d := List.mem_of_getElem? hdd
      refine ⟨hw1 x y, ?_⟩
      show te _ H6 _
      refine he d dm dd ddm x y Bx (t.bas.trans b2) (R.mono b2 d rx) (R.mono b2' dd ry) H6 b3 _ fun z B8 H8 t8 r8 => ?_
      have l8 : (((ds.take i).flatMap fun d => (es d).map (m d)) ++ ((es d).take k').map (m d)).length < 100000 := by
        rw [List.length_append, List.length_map, List.length_take]
        omega
      obtain ⟨acc, h1, h2, h3⟩ := inn_snoc n hD (inn_tr n x1 t8) r8 l8
      refine ⟨acc, h1, h2, B8, b2'.trans t8.bas, ?_⟩
      rw [List.take_add_one, hdd, List.map_append, ← List.append_assoc]
      exact h3
    · have ek : k' = (es d).length := by omega
      subst ek
      rw [List.take_of_length_le (Nat.le_refl _)] at x1
      refine .inl ⟨w1.stops Hx (hG1 Hx (b2'.trans b3.ex)), Bx, ?_⟩
      rw [edone]
      exact x1
  · have ei : i = ds.length := by omega
    subst ei
    rw [List.take_of_length_le (Nat.le_refl _)] at x0
    obtain ⟨B2, t2, r2⟩ := inn_end t hD x0
    exact .inl ⟨w.stops Hc (hG Hc (a2.trans a3.ex)), q (.ref D) B2 Hc t2 r2⟩
end
end K18

set_option Elab.async false
set_option linter.all false
set_option maxRecDepth 100000
set_option maxHeartbeats 2000000
/-! The program's text by places. -/
namespace K18
open PySem L2
def topS (i : Nat) : Stmt := PySem.Challenge.pw_crossloom_k18_grids_and_cubes.main.body.getD i (.Pass ⟨0, 0, 0, 0⟩)
abbrev sPow : Stmt := topS 12
abbrev sFig : Stmt := topS 13
abbrev sFrom : Stmt := topS 14
abbrev sGInit : Stmt := inClass (topS 16) 0
abbrev sGNodes : Stmt := inClass (topS 16) 1
abbrev sGStep : Stmt := inClass (topS 16) 2
abbrev sGNear : Stmt := inClass (topS 16) 3
abbrev sGLinks : Stmt := inClass (topS 16) 4
abbrev sGFar : Stmt := inClass (topS 16) 5
abbrev sCInit : Stmt := inClass (topS 17) 0
abbrev sCNodes : Stmt := inClass (topS 17) 1
abbrev sCStep : Stmt := inClass (topS 17) 2
abbrev sCNear : Stmt := inClass (topS 17) 3
abbrev sCFar : Stmt := inClass (topS 17) 5
abbrev sGray : Stmt := topS 18
abbrev sWidest : Stmt := topS 19
abbrev sSteps : Stmt := topS 20
abbrev sCut : Stmt := topS 21
abbrev sFlat : Stmt := topS 23
abbrev sDice : Stmt := topS 24
abbrev sRoll : Stmt := topS 25
abbrev sRounds : Stmt := topS 26
abbrev sTold : Stmt := topS 27
abbrev sFar : Stmt := topS 28
abbrev sLaw : Stmt := topS 29
end K18

set_option Elab.async false
set_option linter.all false
set_option maxRecDepth 100000
set_option maxHeartbeats 2000000
/-! power_of_two, figures, from_figures. -/
namespace K18
open PySem L2
/-! ### the mathematics -/
def bitsL (x : Int) (n : Nat) : List Int := (List.range n).map fun j => x / 2 ^ j % 2
theorem bitsL_succ (x : Int) (n : Nat) : bitsL x (n + 1) = bitsL x n ++ [x / 2 ^ n % 2] := by
  unfold bitsL
  rw [List.range_succ, List.map_append]
  rfl
theorem bitsL_len (x : Int) (n : Nat) : (bitsL x n).length = n := by unfold bitsL; rw [List.length_map, List.length_range]
def figs (x : Int) (n : Nat) : List Int := (bitsL x n).reverse
theorem figs_len (x : Int) (n : Nat) : (figs x n).length = n := by unfold figs; rw [List.length_reverse, bitsL_len]
def ofFigs (row : List Int) : Int := row.foldl (fun a b => 2 * a + b) 0
theorem half (x : Int) (n : Nat) : x / 2 ^ n / 2 = x / 2 ^ (n + 1) := by
  rw [Int.ediv_ediv_of_nonneg (Int.le_of_lt (Int.pow_pos (by decide))), Int.pow_succ]
section
variable {Pf : Addr} {P : Program} {w : World} {K : PySem.W.Frag} {mg : Str → Option Value} {base : Heap}
theorem scPow : FnScope ["count", "found", "turn"] ["count"] (defScope sPow) := ⟨rfl, rfl, rfl, by decide +kernel, rfl, by decide +kernel, by decide +kernel⟩
def prePow : List V → Hp → Rl → Prop := fun vs _ r => ∃ n : Nat, vs = [.int (n : Int)] ∧ n ≤ 1000 ∧ r = rV (.int (2 ^ n))
theorem ok_pow {f : Addr} {fd : FuncData} (F : Fun K "power_of_two" "power_of_two" sPow f fd) (mr : mg "range" = none) : FnOk P w K mg base CX0 1 f fd ["count"] (Pr Pf prePow) := by
  refine F.ok scPow (fun vs H Q E h => ?_) (fun cdv A outer s H vs Q E hr h => ?_)
  · obtain ⟨B, r, e, ⟨n, rfl, _⟩, _⟩ := h
    rfl
  · obtain ⟨B, r, e, ⟨n, rfl, hn, rfl⟩, k⟩ := h
    refine ⟨_, pss_cons (ps_set (i := 1) scPow.nd rfl (.inl rfl) pe_int)
      (pss_cons (ps_for PassesOwn.never rfl (pi_range1 (by rfl) mr (pa_cons (pv 0) pa_nil)) (pg_name (i := 2) scPow.nd rfl (.inl rfl)) (pss_one (ps_aug (i := 1) scPow.nd rfl (.inl rfl) pe_int iop_mul)))
      (pss_one (ps_ret (pv 1)))), ?_⟩
    refine ⟨_, rfl, (n : Int), rfl, by omega, by omega, for_range (lo := 0) (n := (n : Int).toNat) (fun i σ H1 => ∃ y, σ = [some (.int (n : Int)), some (.int (2 ^ i)), y] ∧ H1 = H) ⟨none, rfl, rfl⟩ ?_ ?_⟩
    · rintro i σ H1 hi ⟨y, rfl, rfl⟩
      refine ⟨_, rfl, 2 ^ i, 2, rfl, rfl, .inr ⟨by decide, by decide⟩, some (.int (0 + (i : Int))), ?_, rfl⟩
      rw [Int.pow_succ]
      rfl
    · rintro σ H1 ⟨y, rfl, rfl⟩
      exact ⟨_, rfl, k _ B _ (.refl e) (by rw [Int.toNat_natCast]; exact rfl)⟩
theorem scFig : FnScope ["number", "count", "found", "place"] ["number", "count"] (defScope sFig) := ⟨rfl, rfl, rfl, by decide +kernel, rfl, by decide +kernel, by decide +kernel⟩
def preFig : List V → Hp → Rl → Prop := fun vs _ r => ∃ (x : Int) (n : Nat), vs = [.int x, .int (n : Int)] ∧ n ≤ 1000 ∧ r = rD (.tuple ((figs x n).map .int))
theorem ok_fig {f : Addr} {fd : FuncData} (F : Fun K "figures" "figures" sFig f fd) (mr : mg "range" = none) (mt : mg "tuple" = none) (mv : mg "reversed" = none) : FnOk P w K mg base CX0 1 f fd ["number", "count"] (Pr Pf preFig) := by
  refine F.ok scFig (fun vs H Q E h => ?_) (fun cdv A outer s H vs Q E hr h => ?_)
  · obtain ⟨B, r, e, ⟨x, n, rfl, _⟩, _⟩ := h
    rfl
  · obtain ⟨B, r, e, ⟨x, n, rfl, hn, rfl⟩, k⟩ := h
    refine ⟨_, pss_cons (ps_set (i := 2) scFig.nd rfl (.inl rfl) (pe_lst pa_nil))
      (pss_cons (ps_for PassesOwn.never rfl (pi_range1 (by rfl) mr (pa_cons (pv 1) pa_nil)) (pg_name (i := 3) scFig.nd rfl (.inl rfl))
        (pss_cons (ps_expr (pe_bm PySem.F.plainAttrs_list PySem.F.slot_list_append PySem.F.type_list_append mt_append (pv 2) (pa_cons (pe_op op_mod (pv 0) pe_int) pa_nil)))
        (pss_one (ps_aug (i := 0) scFig.nd rfl (.inl rfl) pe_int iop_fdiv))))
      (pss_one (ps_ret (RT.pe_tupRev rfl (by rfl) mt (by rfl) mv (pv 2))))), ?_⟩
    refine ⟨Nat.zero_le _, fun p np => ?_⟩
    refine ⟨_, rfl, (n : Int), rfl, by omega, by omega, for_range (lo := 0) (n := (n : Int).toNat) (fun i σ H1 => ∃ y, σ = [some (.int (x / 2 ^ i)), some (.int (n : Int)), some (.ref p), y] ∧ H1 = upd H p (.lst ((bitsL x i).map V.int))) ⟨none, by simp; rfl, rfl⟩ ?_ ?_⟩
    · rintro i σ H1 hi ⟨y, rfl, rfl⟩
      refine ⟨_, rfl, .inl ⟨rfl, _, SqL.of upd_same⟩, _, rfl, _, _, rfl, rfl, by show (0 : Int) < 2; decide, p, _, _, rfl, rfl, upd_same, ?_, ?_⟩
      · rw [List.length_map, bitsL_len]
        exact small1000 (by omega)
      · refine ⟨_, rfl, _, _, rfl, rfl, ⟨by decide, by decide⟩, some (.int (0 + (i : Int))), ?_, ?_⟩
        · rw [← half]
          rfl
        · rw [upd_upd, bitsL_succ, List.map_append]
          rfl
    · rintro σ H1 ⟨y, rfl, rfl⟩
      refine ⟨_, rfl, p, _, rfl, SqL.of upd_same, fun q nq => ?_⟩
      rw [Int.toNat_natCast, ← List.map_reverse]
      have s1 : Tr Pf B H B (upd H p (.lst ((bitsL x n).map V.int))) := .step e (.new e np)
      rw [Int.toNat_natCast] at nq
      exact k _ _ _ (s1.trans (.new s1.sub nq)) (.tup upd_same (Rs.ints (figs x n)))
theorem scFrom : FnScope ["row", "number", "figure"] ["row"] (defScope sFrom) := ⟨rfl, rfl, rfl, by decide +kernel, rfl, by decide +kernel, by decide +kernel⟩
def preFrom : List V → Hp → Rl → Prop := fun vs B r => ∃ (x : V) (ns : List Int), vs = [x] ∧ R B x (.list (ns.map .int)) ∧ r = rV (.int (ofFigs ns))
theorem ok_from {f : Addr} {fd : FuncData} (F : Fun K "from_figures" "from_figures" sFrom f fd) : FnOk P w K mg base CX0 1 f fd ["row"] (Pr Pf preFrom) := by
  refine F.ok scFrom (fun vs H Q E h => ?_) (fun cdv A outer s H vs Q E hr h => ?_)
  · obtain ⟨B, r, e, ⟨x, n, rfl, _⟩, _⟩ := h
    rfl
  · obtain ⟨B, r, e, ⟨x, ns, rfl, hx, rfl⟩, k⟩ := h
    obtain ⟨a, xs, rfl, h1, h2⟩ := R.lst_inv hx
    obtain rfl := Rs.of_ints h2
    refine ⟨_, pss_cons (ps_set (i := 1) scFrom.nd rfl (.inl rfl) pe_int)
      (pss_cons (ps_for PassesOwn.never rfl (pi_list (pv 0)) (pg_name (i := 2) scFrom.nd rfl (.inl rfl))
        (pss_one (ps_set (i := 1) scFrom.nd rfl (.inl rfl) (pe_op op_add (pe_op op_mul pe_int (pv 1)) (pv 2)))))
      (pss_one (ps_ret (pv 1)))), ?_⟩
    refine ⟨_, rfl, a, rfl, ⟨_, SqL.of (e.at h1)⟩, for_list (K := K) (a := a) (xs := ns.map V.int) (fun i σ H1 => ∃ y, σ = [some (.ref a), some (.int (ofFigs (ns.take i))), y] ∧ H1 = H) ⟨none, rfl, rfl⟩ ?_ ?_ ?_⟩
    · rintro i σ H1 _ ⟨y, rfl, rfl⟩
      exact SqL.of (e.at h1)
    · rintro i x σ H1 hi ⟨y, rfl, rfl⟩
      rw [List.getElem?_map] at hi
      cases hz : ns[i]? with
      | none =>
        rw [hz] at hi
        cases hi
      | some z =>
        rw [hz] at hi
        have hi := Option.some.inj hi
        subst hi
        refine ⟨_, rfl, _, _, rfl, rfl, .inl ⟨by decide, by decide⟩, _, rfl, _, _, rfl, rfl, some (.int z), ?_, rfl⟩
        unfold ofFigs
        rw [List.take_add_one, hz, List.foldl_append]
        rfl
    · rintro σ H1 ⟨y, rfl, rfl⟩
      refine ⟨_, rfl, k _ B _ (.refl e) ?_⟩
      rw [List.length_map, List.take_of_length_le (Nat.le_refl _)]
      exact rfl
end
end K18

set_option Elab.async false
set_option linter.all false
set_option maxRecDepth 100000
set_option maxHeartbeats 4000000
/-! sum(1 for a, b in zip(x, y) if a != b), x and y two tuples of ints. -/
namespace K18
open PySem PySem.Spec PyProof.Rows L2
/-- zip of two tuples, walked -/
theorem walks_zipT {prog : Program} {w : World} {A : Around} (hh : A.handled = none) (z TI TO i1 i2 l1 l2 : Addr) (D : ZipApart z TI TO i1 i2 l1 l2) (xs ys : Array Value) :
    WalksT prog w A z [z, TI, TO, i1, i2, l1, l2] [z, TO, i1, i2] (min xs.size ys.size) (fun i vals => ∃ x y, xs[i]? = some x ∧ ys[i]? = some y ∧ vals = #[x, y])
      (fun i h => IsZip h z TI TO .none ∧ IsPair h TI (.ref i1) (.ref i2) ∧ (∃ a b, IsPair h TO a b) ∧ h.IsTupleIter i1 l1 i ∧ h.IsTupleIter i2 l2 i ∧ h.IsTuple l1 xs ∧ h.IsTuple l2 ys)
      (fun i T h => IsZip h z TI TO (rawInt T) ∧ IsPair h TI (.ref i1) (.ref i2) ∧ (∃ a b, IsPair h TO a b) ∧ h.IsTupleIter i1 l1 (i + 1) ∧ h.IsTupleIter i2 l2 (i + 1) ∧ h.IsTuple l1 xs ∧ h.IsTuple l2 ys ∧ (T ≠ z ∧ T ≠ TO ∧ T ≠ i1 ∧ T ≠ i2)) where
  sub := fun c hc => by
    have e : c = z ∨ c = TO ∨ c = i1 ∨ c = i2 := by simpa using hc
    rcases e with e | e | e | e <;> simp [e]
  frame := fun i h h' hst hk => by
    obtain ⟨g0, g1, ⟨a, b, g2⟩, g3, g4, g5, g6⟩ := hst
    exact ⟨hk z (by simp) _ g0, hk TI (by simp) _ g1, ⟨a, b, hk TO (by simp) _ g2⟩, g3.at fun o e => hk i1 (by simp) o e, g4.at fun o e => hk i2 (by simp) o e, g5.at fun o e => hk l1 (by simp) o e, g6.at fun o e => hk l2 (by simp) o e⟩
  item := fun i s Q E hi hst hQ => by
    obtain ⟨g0, g1, ⟨a, b, g2⟩, g3, g4, g5, g6⟩ := hst
    have hx : xs[i]? = some xs[i] := Array.getElem?_eq_getElem (Nat.lt_of_lt_of_le hi (Nat.min_le_left ..))
    have hy : ys[i]? = some ys[i] := Array.getElem?_eq_getElem (Nat.lt_of_lt_of_le hi (Nat.min_le_right ..))
    have up : ∀ {c o}, s.heap.get? c = some o → s.heap.objs.size ≠ c := fun e => Nat.ne_of_gt (Heap.lt_size e)
    refine RZ.pyNext_zipT_item D g0 g1 g2 g3 g4 g5 g6 hx hy fun h' a1 a2 a3 a4 a5 a6 hk => ?_
    refine hQ s.heap.objs.size #[xs[i], ys[i]] h' s.toks ⟨_, _, hx, hy, rfl⟩ (Nat.le_refl _) ⟨_, a5, rfl, _, rfl⟩ ⟨a1, hk _ _ D.TIz D.TITO D.TIi1 D.TIi2 g1, ⟨_, _, a2⟩, a3, a4, g5.at fun o e => hk _ o D.l1z D.l1TO D.l1i1 D.l1i2 e, g6.at fun o e => hk _ o D.l2z D.l2TO D.l2i1 D.l2i2 e, up g0, up g2, ?_, ?_⟩ fun c o hc e => ?_
    · obtain ⟨_, e, _⟩ := g3
      exact up e
    · obtain ⟨_, e, _⟩ := g4
      exact up e
    · exact hk c o (fun x => hc (by simp [x])) (fun x => hc (by simp [x])) (fun x => hc (by simp [x])) (fun x => hc (by simp [x])) e
  go := fun elts k pos i T s Q E hm hQ => by
    obtain ⟨g0, g1, ⟨a, b, g2⟩, g3, g4, g5, g6, _⟩ := hm
    refine wpAny_letOwnedTupleGo_zip g0 fun h' hz' hs' => hQ h' ⟨hz', hs'.extBut _ _ D.TIz g1, ⟨a, b, hs'.extBut _ _ D.TOz g2⟩, g3.at fun o e => hs'.extBut _ _ D.i1z e, g4.at fun o e => hs'.extBut _ _ D.i2z e, g5.at fun o e => hs'.extBut _ _ D.l1z e, g6.at fun o e => hs'.extBut _ _ D.l2z e⟩ fun c o hc e => hs'.extBut _ _ (fun x => hc (by simp [x])) e
  apart := fun i T h hm hT => by
    obtain ⟨t1, t2, t3, t4⟩ := hm.2.2.2.2.2.2.2
    have e : T = z ∨ T = TO ∨ T = i1 ∨ T = i2 := by simpa using hT
    rcases e with e | e | e | e
    · exact t1 e
    · exact t2 e
    · exact t3 e
    · exact t4 e
  done := fun s Q E hst hQ => by
    obtain ⟨g0, g1, ⟨a, b, g2⟩, g3, g4, g5, g6⟩ := hst
    have hend : xs[min xs.size ys.size]? = none ∨ ys[min xs.size ys.size]? = none := by
      rcases Nat.le_total xs.size ys.size with h | h
      · exact .inl (Array.getElem?_eq_none (by omega))
      · exact .inr (Array.getElem?_eq_none (by omega))
    exact RZ.pyNext_zipT_end hh D g0 g1 g2 g3 g4 g5 g6 hend fun h' hk => hQ h' s.toks fun c o hc e => hk c o (fun x => hc (by simp [x])) (fun x => hc (by simp [x])) (fun x => hc (by simp [x])) (fun x => hc (by simp [x])) e
  self := fun i s Q E hst hQ => wpAny_pyIter_zip hst.1 hQ

/-- the scope of the generator expression: two names, the walked thing -/
structure GenZ (env : Env) (scope : Scope) (xa xb : Str) : Prop where
  kind : scope.kind = .function
  co : scope.isCoroutine = false
  cell : ∀ y ∈ scope.names, y.2 ≠ .cell
  dot : scope.names.lookup (".0" : Str) = some NameKind.local
  la : scope.names.lookup xa = some .local
  lb : scope.names.lookup xb = some .local
  ne : xa ≠ xb
  free : ∀ y ∈ scope.names, y.2 = .free → ∃ c, env.cells.lookup y.1 = some c
/-- unlike at the i-th place -/
def unl (ns ms : List Int) (i : Nat) : Bool := decide (ns[i]? ≠ ms[i]?)
/-- how many of the first places are unlike -/
def cntU (ns ms : List Int) : Nat := (passing (unl ns ms) (min ns.length ms.length) 0).length
theorem preSum_one : ∀ n : Nat, preSum (fun _ => 1) n = (n : Int)
  | 0 => rfl
  | n + 1 => by
    show preSum (fun _ => 1) n + 1 = _
    rw [preSum_one n]
    rfl
theorem at_int {ns : List Int} {us : List Value} (r : Vals (ns.map V.int) us) {i : Nat} {v : Value} (h : us.toArray[i]? = some v) : ∃ z t, ns[i]? = some z ∧ v = .int z t := by
  have h' : us[i]? = some v := by simpa using h
  cases hz : ns[i]? with
  | none =>
    have l := r.length
    rw [List.length_map] at l
    have h1 := List.getElem?_eq_none_iff.mp hz
    have h2 := (List.getElem?_eq_some_iff.mp h').1
    omega
  | some z =>
    obtain ⟨u, e1, e2⟩ := r.get (i := i) (x := .int z) (by rw [List.getElem?_map, hz]; rfl)
    rw [h'] at e1
    have e1 := Option.some.inj e1
    subst e1
    obtain ⟨t, rfl⟩ := e2
    exact ⟨z, t, rfl, rfl⟩
section
variable {X : Cx}
def tSumZ (Pf : Addr) (K : PySem.W.Frag) (ta : TA) : TE := fun σ H Q => ta σ H fun vs H1 => ∃ a b ns ms, vs = [.ref a, .ref b] ∧ SqT K H1 a (ns.map V.int) ∧ SqT K H1 b (ms.map V.int) ∧ ns.length ≤ 1000 ∧ GxR.TabG H1 Pf ∧ ∀ H2, GxR.Tabbed Pf H1 H2 → Q (.int (cntU ns ms : Nat)) H2
theorem pe_sumZ {c Pf : Addr} {e1 e2 : Expr} {xa xb : Str} {p p2 pa pb pt pos zpos gpos ppa ppb cpos epos : Pos} {kt ke : Nat} {scope : Scope} {ta : TA} {k : Nat}
    (hr : Room k X.A) (hg : Gl X "sum") (hm : X.mg "sum" = none) (hgz : Gl X "zip") (hmz : X.mg "zip" = none) (TB : GxR.TabB X.base X.mg c Pf) (hcode : X.env.code = .ref c) (S : GenZ X.env scope xa xb) (ha : PA X [e1, e2] ta)
    (hda : (xa == ("__debug__" : Str)) = false) (hdb : (xb == ("__debug__" : Str)) = false)
    (hs : ∀ v, genFold (.Call (.Name "zip" p2) [e1, e2] [] zpos) X.env v = pure v)
    (hs1 : starEach [e1, e2] X.env = (false, eval e1 X.env) :: starEach [e2] X.env := by rfl) (hpl : (backTo zpos (starEach [e2] X.env)).any (·.1) = false := by rfl)
    (he : starEach [.GeneratorExp (.Constant (.int 1) ke epos) [⟨.Tuple [.Name xa pa, .Name xb pb] kt pt, .Call (.Name "zip" p2) [e1, e2] [] zpos, [.Compare (.Name xa ppa) [.NotEq] [.Name xb ppb] cpos], 0⟩] scope gpos] X.env =
      (false, eval (.GeneratorExp (.Constant (.int 1) ke epos) [⟨.Tuple [.Name xa pa, .Name xb pb] kt pt, .Call (.Name "zip" p2) [e1, e2] [] zpos, [.Compare (.Name xa ppa) [.NotEq] [.Name xb ppb] cpos], 0⟩] scope gpos) X.env) :: starEach [] X.env := by rfl) :
    PE X (.Call (.Name "sum" p) [.GeneratorExp (.Constant (.int 1) ke epos) [⟨.Tuple [.Name xa pa, .Name xb pb] kt pt, .Call (.Name "zip" p2) [e1, e2] [] zpos, [.Compare (.Name xa ppa) [.NotEq] [.Name xb ppb] cpos], 0⟩] scope gpos] [] pos) (tSumZ Pf X.K ta) := by
  refine ⟨fun pins s σ H Q I h => ?_⟩
  refine wpAny_Call_Name_kw (ld_blt I hg hm PyProof.Rows.boot_sum ?_)
  refine PyProof.Rows.callWith_builtin1 ?_ he (by rfl)
  rw [he]
  show wpAny _ _ (spliced ((false, eval (.GeneratorExp (.Constant (.int 1) ke epos) [⟨.Tuple [.Name xa pa, .Name xb pb] kt pt, .Call (.Name "zip" p2) [e1, e2] [] zpos, [.Compare (.Name xa ppa) [.NotEq] [.Name xb ppb] cpos], 0⟩] scope gpos) X.env) :: backTo pos (starEach [] X.env))) _ _ s
  refine Calls.spliced_cons ?_
  refine wpAny_GeneratorExp_walksQT hr.hd S.co (closure_ok S.free) S.cell S.dot S.la S.lb S.ne S.kind (by have := hr.dp; omega) ?_ hs
  refine Call_ (ld_blt I hgz hmz PyProof.Rows.boot_zip (PyProof.Rows.callWith_type1 (thn (ha.run zpos pins s σ H _ I h) fun us s1 ⟨vs, H1, I1, r1, q1⟩ => ?_) hs1 hpl))
  obtain ⟨a, b, ns, ms, ex, hqx, hqy, hlen, ⟨ps, hP, ht⟩, q⟩ := q1
  subst ex
  obtain ⟨u1, u2, eu, ra, rb⟩ := vals2 r1
  subst eu
  obtain rfl : u1 = Value.ref a := ra
  obtain rfl : u2 = Value.ref b := rb
  obtain ⟨its, rv, pl1, _⟩ := I1.tuple hqx
  obtain ⟨its2, rv2, pl2, _⟩ := I1.tuple hqy
  obtain ⟨oa, hoa, _⟩ := id pl1
  obtain ⟨ob', hob, _⟩ := id pl2
  have tl1 : s1.heap.IsTuple a its.toArray := pl1
  have tl2 : s1.heap.IsTuple b its2.toArray := pl2
  have D := PySem.W.ktu_apart s1.heap.objs.size a b (Heap.lt_size hoa) (Heap.lt_size hob)
  refine RZ.call_zipT tl1 tl2 fun h0 hz hTI hTO h1 h2 hsz hk => wpAny_pyIter_zip hz ?_
  have len1 : its.toArray.size = ns.length := by
    rw [List.size_toArray, ← rv.length, List.length_map]
  have len2 : its2.toArray.size = ms.length := by
    rw [List.size_toArray, ← rv2.length, List.length_map]
  have hPs : s1.heap.get? Pf = some { cls := .none, data := .fields ps } := I1.hok Pf _ hP
  have hPlt : Pf < s1.heap.objs.size := Heap.lt_size hPs
  have hP2 : h0.get? Pf = some { cls := .none, data := .fields ps } := hk _ _ hPs
  have cd : PySem.W.CodeHd h0 c Pf := TB.code.keeps fun b u e => hk _ _ (I1.bk b u e)
  have lim2 : h0.NoLimit := I1.nolimit.keeps fun b u e => hk b u e
  have cont : ∀ (code : Value) (h3 : Heap) (tk : Nat) (ps' : Array Value), Heap.ExtBut Pf h0 h3 → h0.objs.size ≤ h3.objs.size → h3.get? Pf = some { cls := .none, data := .fields ps' } → (∃ more, ps' = ps ++ more) → TriplesOk ps'.toList →
      wpAny (model X.prog X.w) X.A (builtinsFor X.env.globals X.env.builtins) (fun bi s₄ =>
        ∃ Ia fp wr n₀ Pt St₀ Mid pz F, Value.ref (s1.heap.objs.size + 4) = .ref Ia ∧ (∀ A' : Around, A'.handled = none → WalksU X.prog X.w A' Ia fp wr n₀ Pt St₀ Mid) ∧ (∀ i vals, Pt i vals → ∃ va vb, vals = #[va, vb]) ∧ St₀ 0 s₄.heap ∧ (∀ b ∈ fp, b < s₄.heap.objs.size) ∧ s₄.heap.NoLimit ∧ cStatics ∉ wr ∧
          (∀ href : Heap, (∀ b o, s₄.heap.get? b = some o → href.get? b = some o) →
            QuietGenT X.prog X.w (genEnv scope (cloFrom X.env.cells scope.names []) s₄.heap.objs.size code bi X.env) xa xb [.Compare (.Name xa ppa) [.NotEq] [.Name xb ppb] cpos] (.Constant (.int 1) ke epos) (List.range s₄.heap.objs.size) wr Pt pz F href) ∧
          (∀ a h₅ tk gs, gs.bare = true → s₄.heap.objs.size < a → h₅.objs.size = a + 1 → (∀ b o, s₄.heap.get? b = some o → h₅.get? b = some o) →
            WalksS X.prog X.w X.A.in4 a (a :: s₄.heap.objs.size :: List.range s₄.heap.objs.size) (s₄.heap.objs.size :: wr) (GenOnlyQ s₄.gens.size) (passing pz n₀ 0).length
              (fun j y => ∃ i, (passing pz n₀ 0)[j]? = some i ∧ F i y) (GenAt X.prog X.w X.A.in4 a s₄.gens.size s₄.heap.objs.size (List.range s₄.heap.objs.size) wr pz n₀ F) →
            GenAt X.prog X.w X.A.in4 a s₄.gens.size s₄.heap.objs.size (List.range s₄.heap.objs.size) wr pz n₀ F 0 { s₄ with gens := s₄.gens.push gs, toks := tk, heap := h₅ } →
            wpAny (model X.prog X.w) X.A (spliced (backTo pos (starEach [] X.env))) (fun ws s₆ => wpAny (model X.prog X.w) X.A (call (.builtin "sum") (.ref a :: ws)) (EP X pins σ Q) X.xe s₆) X.xe { s₄ with gens := s₄.gens.push gs, toks := tk, heap := h₅ })) X.xe { s1 with heap := h3, toks := tk } := by
    intro code h3 tk ps' hx hsz3 hP3 hmore ht3
    obtain ⟨bm, ob, q1, q2, q3, q4, q5, q6, q7, q8⟩ := TB.bm
    have hcP : cStatics ≠ Pf := fun e => by
      obtain ⟨_, hns, _⟩ := I1.nolimit
      obtain ⟨o', es, ep, ho, hd, _⟩ := hns
      rw [e, hPs] at ho
      cases ho
      cases hd
    have hcl : cStatics < s1.heap.objs.size := let ⟨_, hns, _⟩ := I1.nolimit; hns.lt
    have keep3 : ∀ b u, b ≠ Pf → s1.heap.get? b = some u → h3.get? b = some u := fun b u hb e => hx b u hb (hk _ _ e)
    have gt : ∀ j : Nat, s1.heap.objs.size + j ≠ Pf := fun j e => by
      have hl : Pf < s1.heap.objs.size := hPlt
      rw [← e] at hl
      exact Nat.lt_irrefl _ (Nat.lt_of_le_of_lt (Nat.le_add_right _ _) hl)
    have g0 : s1.heap.objs.size ≠ Pf := Nat.ne_of_gt hPlt
    refine wpAny_builtinsFor (m := X.mg) (by rw [I1.ok.glob]; exact ((I1.mod.glob.keeps I1.bk).keeps hk).extBut hx TB.gP) q1 q2 (keep3 _ _ q4 (I1.bk _ _ q5)) q6 q7 q8 ?_
    have st0 : IsZip h3 (s1.heap.objs.size + 4) (s1.heap.objs.size + 2) (s1.heap.objs.size + 3) .none ∧ IsPair h3 (s1.heap.objs.size + 2) (.ref s1.heap.objs.size) (.ref (s1.heap.objs.size + 1)) ∧ (∃ a b, IsPair h3 (s1.heap.objs.size + 3) a b) ∧
        h3.IsTupleIter s1.heap.objs.size a 0 ∧ h3.IsTupleIter (s1.heap.objs.size + 1) b 0 ∧ h3.IsTuple a its.toArray ∧ h3.IsTuple b its2.toArray := by
      refine ⟨hx _ _ (gt 4) hz, hx _ _ (gt 2) hTI, ⟨_, _, hx _ _ (gt 3) hTO⟩, h1.at fun o e => hx _ o g0 e, h2.at fun o e => hx _ o (gt 1) e, tl1.at fun o e => keep3 _ o (fun zz => ?_) e, tl2.at fun o e => keep3 _ o (fun zz => ?_) e⟩
      · obtain ⟨ot, hot, hct, _⟩ := tl1
        rw [zz, hPs] at hot
        cases hot
        cases hct
      · obtain ⟨ot, hot, hct, _⟩ := tl2
        rw [zz, hPs] at hot
        cases hot
        cases hct
    refine ⟨s1.heap.objs.size + 4, [s1.heap.objs.size + 4, s1.heap.objs.size + 2, s1.heap.objs.size + 3, s1.heap.objs.size, s1.heap.objs.size + 1, a, b], [s1.heap.objs.size + 4, s1.heap.objs.size + 3, s1.heap.objs.size, s1.heap.objs.size + 1], min its.toArray.size its2.toArray.size, _, _, _, unl ns ms, (fun _ y => ∃ t, y = .int 1 t), rfl,
      fun A' hA => (walks_zipT hA (s1.heap.objs.size + 4) (s1.heap.objs.size + 2) (s1.heap.objs.size + 3) s1.heap.objs.size (s1.heap.objs.size + 1) a b D its.toArray its2.toArray).toU, fun i vals hv => ?_, st0, ?_, lim2.extBut hx hcP, ?_, ?_, ?_⟩
    · obtain ⟨x, y, _, _, e⟩ := hv
      exact ⟨x, y, e⟩
    · intro bb hb
      have e : bb = s1.heap.objs.size + 4 ∨ bb = s1.heap.objs.size + 2 ∨ bb = s1.heap.objs.size + 3 ∨ bb = s1.heap.objs.size ∨ bb = s1.heap.objs.size + 1 ∨ bb = a ∨ bb = b := by simpa using hb
      have l1 : (a : Nat) < s1.heap.objs.size := Heap.lt_size hoa
      have l2 : (b : Nat) < s1.heap.objs.size := Heap.lt_size hob
      have l3 : h3.objs.size ≥ s1.heap.objs.size + 5 := by rw [← hsz]; exact hsz3
      have key : ∀ j : Nat, j < 5 → (s1.heap.objs.size : Nat) + j < h3.objs.size := fun j hj => by omega
      rcases e with e | e | e | e | e | e | e
      · rw [e]
        exact key 4 (by decide)
      · rw [e]
        exact key 2 (by decide)
      · rw [e]
        exact key 3 (by decide)
      · rw [e]
        exact key 0 (by decide)
      · rw [e]
        exact key 1 (by decide)
      · rw [e]
        exact Nat.lt_trans l1 (key 0 (by decide))
      · rw [e]
        exact Nat.lt_trans l2 (key 0 (by decide))
    · intro zz
      have e : cStatics = s1.heap.objs.size + 4 ∨ cStatics = s1.heap.objs.size + 3 ∨ cStatics = s1.heap.objs.size ∨ cStatics = s1.heap.objs.size + 1 := by simpa using zz
      have l : (cStatics : Nat) < s1.heap.objs.size := hcl
      rcases e with e | e | e | e
      · exact Nat.lt_irrefl _ (Nat.lt_of_le_of_lt (Nat.le_add_right (s1.heap.objs.size : Nat) 4) (by rw [← e]; exact l))
      · exact Nat.lt_irrefl _ (Nat.lt_of_le_of_lt (Nat.le_add_right (s1.heap.objs.size : Nat) 3) (by rw [← e]; exact l))
      · exact Nat.lt_irrefl _ (by rw [← e] at l; exact l)
      · exact Nat.lt_irrefl _ (Nat.lt_of_le_of_lt (Nat.le_add_right (s1.heap.objs.size : Nat) 1) (by rw [← e]; exact l))
    · intro href hhref
      refine ⟨fun A' E' i va vb s₂ m₂ hA hPv hn hma hmb hkk => ?_, fun A' E' i va vb s₂ m₂ hA hPv hp hn hma hmb hkk => ?_⟩
      · obtain ⟨x, y, hx1, hy1, e⟩ := hPv
        obtain ⟨ea, eb⟩ : va = x ∧ vb = y := by simpa using congrArg Array.toList e
        subst ea eb
        obtain ⟨z1, t1, ez1, ev1⟩ := at_int rv hx1
        obtain ⟨z2, t2, ez2, ev2⟩ := at_int rv2 hy1
        subst ev1 ev2
        refine wpAny_tests_one (wpAny_isTrue_Compare1 (wpAny_Name (wpAny_loadName_local S.kind S.la hn hma (wpAny_Name (wpAny_loadName_local S.kind S.lb hn hmb (ne_int (wpAny_truthy_bool ⟨?_, GxR.keeps_refl _⟩))) hdb)) hda) (nomark _))
        unfold unl
        rw [ez1, ez2]
        by_cases e : z1 = z2
        · simp [e]
        · simp [e]
      · exact wpAny_Constant_int ⟨⟨_, rfl⟩, GxR.keeps_tok _ _⟩
    · intro g h5 tk5 gs hgb hag hsz5 hk5 W5 hat
      refine Calls.spliced_nil ?_
      have hn5 : (passing (unl ns ms) (min its.toArray.size its2.toArray.size) 0).length = cntU ns ms := by
        unfold cntU
        rw [len1, len2]
      have small : cntU ns ms ≤ 1000 := by
        have z : (passing (unl ns ms) (min ns.length ms.length) 0).length ≤ min ns.length ms.length := by
          unfold passing
          refine Nat.le_trans (List.length_filter_le _ _) ?_
          simp
        unfold cntU
        omega
      refine call_sum_walkS (W5.in4_1.self 0 _ _ _ hat ⟨g, _, _, _, _, _, _, (fun _ => 1), rfl, W5.in4_1, hat, fun bb hb => ?_, fun i v hv => ?_, fun j hj => ?_, fun s' t' hm => ?_⟩)
      · show (bb : Nat) < h5.objs.size
        rw [hsz5]
        have l : (h3.objs.size : Nat) < g := hag
        rcases List.mem_cons.mp hb with e | hb
        · rw [e]
          exact Nat.lt_succ_self _
        · rcases List.mem_cons.mp hb with e | hb
          · rw [e]
            exact Nat.lt_succ_of_lt l
          · exact Nat.lt_succ_of_lt (Nat.lt_trans (List.mem_range.mp hb) l)
      · obtain ⟨_, _, hf⟩ := hv
        exact hf
      · rw [hn5] at hj
        rw [preSum_one]
        exact ⟨⟨by show -(2 ^ 63) ≤ (1 : Int); decide, by show (1 : Int) < 2 ^ 63; decide⟩, by constructor <;> omega⟩
      · obtain ⟨more, em⟩ := hmore
        have nwr : ∀ b u, s1.heap.get? b = some u → b ∉ h3.objs.size :: [s1.heap.objs.size + 4, s1.heap.objs.size + 3, s1.heap.objs.size, s1.heap.objs.size + 1] := fun b u e hb => by
          have hl : (b : Nat) < s1.heap.objs.size := Heap.lt_size e
          have l3 : h3.objs.size ≥ s1.heap.objs.size + 5 := by rw [← hsz]; exact hsz3
          have e' : b = h3.objs.size ∨ b = s1.heap.objs.size + 4 ∨ b = s1.heap.objs.size + 3 ∨ b = s1.heap.objs.size ∨ b = s1.heap.objs.size + 1 := by simpa using hb
          rcases e' with z | z | z | z | z
          · rw [z] at hl
            have h9 : (h3.objs.size : Nat) < s1.heap.objs.size := hl
            omega
          · rw [z] at hl
            exact Nat.lt_irrefl _ (Nat.lt_of_le_of_lt (Nat.le_add_right _ _) hl)
          · rw [z] at hl
            exact Nat.lt_irrefl _ (Nat.lt_of_le_of_lt (Nat.le_add_right _ _) hl)
          · rw [z] at hl
            exact Nat.lt_irrefl _ hl
          · rw [z] at hl
            exact Nat.lt_irrefl _ (Nat.lt_of_le_of_lt (Nat.le_add_right _ _) hl)
        have J := GxR.inv_tab (more := more) (h' := s'.heap) (g' := s'.gens) (d' := s'.drawn) (t' := s'.toks) I1 hP (fun b u hb e => hm.heap b u (nwr b u e) (hk5 b u (keep3 b u hb e)))
          (by rw [← em]; exact hm.heap Pf _ (nwr Pf _ hPs) (hk5 Pf _ hP3)) (AllBare.movedS (I1.bare.push hgb) hm)
        rw [GxR.sh_eta s1 s' hm.os] at J
        refine ⟨.int (cntU ns ms : Nat), upd H1 Pf (.tbl (ps ++ more)), J, ⟨t', ?_⟩, q _ ⟨⟨ps ++ more, upd_same, by rw [← em]; exact ht3⟩, fun b hb => upd_ne hb⟩⟩
        rw [hn5, preSum_one]
  refine ⟨lim2, ?_⟩
  cases hf : codeAmong gpos ps.toList with
  | none =>
    refine wpAny_genexprCodeX hcode (cd.code hP2 ht) (cd.tab hP2) hf fun c' h' tk hx hge hlt hco' _ htab' _ => ?_
    obtain ⟨o1, vs, f1, tf, fl, tg, inF, tx, tt, op, _, _, _, _, _, _, _, _, _, htr, _⟩ := hco'
    exact cont _ h' tk _ hx (Nat.le_trans hge (Nat.le_of_lt hlt)) htab'.2 ⟨_, rfl⟩ htr
  | some cv =>
    refine wpAny_genexprCode_hit hcode (cd.code hP2 ht) hf ?_
    exact cont cv h0 s1.toks ps (Heap.ExtBut.refl _ _) (Nat.le_refl _) hP2 ⟨#[], by simp⟩ ht
end
end K18

set_option Elab.async false
set_option linter.all false
set_option maxRecDepth 100000
set_option maxHeartbeats 4000000
/-! dict([(t, v), ..]) and {t: v}, the keys tuples of ints and texts. -/
namespace K18
open PySem PySem.Spec PyProof.Rows L2
def mergeT (kvs more : List (List Key × V)) : List (List Key × V) := more.foldl (fun acc kv => putK acc kv.1 kv.2) kvs
theorem KT_merge {H : Hp} : ∀ {more : List (List Key × V)} {ps : List (List Key × Addr × Value)} {kvs : List (List Key × V)} {xs : List (List Key × Addr × Value)}, KT H more ps → KT H kvs xs → KT H (mergeT kvs more) (storedAllH xs ps) := by
  intro more ps kvs xs r
  induction r generalizing kvs xs with
  | nil => intro q; exact q
  | @cons p q ps qs h t ih =>
    intro r0
    obtain ⟨h1, h2, h3⟩ := h
    have e := r0.put p.1 (b := q.2.1) (y := p.2) (u := q.2.2) h2 h3
    show KT H (mergeT (putK kvs p.1 p.2) ps) (storedAllH (storedH xs q.1 q.2.1 q.2.2) qs)
    rw [← h1]
    exact ih e
theorem length_mergeT : ∀ (more kvs : List (List Key × V)), (mergeT kvs more).length ≤ kvs.length + more.length
  | [], kvs => Nat.le_refl _
  | p :: r, kvs => by
    have h1 := length_mergeT r (putK kvs p.1 p.2)
    have h2 := length_putK kvs p.1 p.2
    show (mergeT (putK kvs p.1 p.2) r).length ≤ _
    rw [List.length_cons]
    omega
/-- what one item of the list tells: its pair's address, the key's tuple, the key, the value -/
structure PrT where
  p : Addr
  b : Addr
  k : List Key
  v : V
theorem key_keep {P : Program} {w : World} {h h' : Heap} {ks : List Key} {b : Addr} (x : (tupleKind (mixKind P w)).is h ks b) (e : ∀ o, h.get? b = some o → h'.get? b = some o) : (tupleKind (mixKind P w)).is h' ks b := by
  obtain ⟨o, its, n, h1, h2⟩ := x
  exact ⟨o, its, n, e _ h1, h2⟩
theorem key_there {P : Program} {w : World} {h : Heap} {ks : List Key} {b : Addr} (x : (tupleKind (mixKind P w)).is h ks b) : ∃ o, h.get? b = some o := by
  obtain ⟨o, its, n, h1, h2⟩ := x
  exact ⟨o, h1⟩
section
variable {X : Cx}
theorem prt_vals {pins : List (Addr × Obj)} {σ : L2.St} {H : Hp} {s : Shared} (I : Inv X pins σ H s) : ∀ {L : List PrT}, (∀ z ∈ L, SqT X.K H z.p [.ref z.b, z.v]) → ∃ us : List Value, us.length = L.length ∧ ∀ (j : Nat) z, L[j]? = some z → ∃ u, us[j]? = some u ∧ s.heap.IsTuple z.p #[.ref z.b, u] ∧ RelV z.v u
  | [], _ => ⟨[], rfl, fun j z e => by simp at e⟩
  | z :: L, h => by
    obtain ⟨us, hl, hu⟩ := prt_vals I fun y hy => h y (List.mem_cons_of_mem _ hy)
    obtain ⟨its, rv, ht, _⟩ := I.tuple (h z List.mem_cons_self)
    obtain ⟨u0, u, ei, r0, r1⟩ := vals2 rv
    subst ei
    obtain rfl : u0 = Value.ref z.b := r0
    refine ⟨u :: us, by simp [hl], fun j y e => ?_⟩
    cases j with
    | zero =>
      have e := Option.some.inj e
      subst e
      exact ⟨u, rfl, ht, r1⟩
    | succ j =>
      obtain ⟨u', e1, e2⟩ := hu j y (by simpa using e)
      exact ⟨u', by simpa using e1, e2⟩
def rDictPT (K : PySem.W.Frag) : List V → Hp → VK → Prop := fun xs H Q => ∃ (a : Addr) (L : List PrT), xs = [.ref a] ∧ SqL K H a (L.map fun z => V.ref z.p) ∧ (∀ z ∈ L, SqT K H z.p [.ref z.b, z.v] ∧ H z.b = some (.tup (z.k.map kV))) ∧
  ∀ p, H p = none → Q (.ref p) (upd H p (.dT (mergeT [] (L.map fun z => (z.k, z.v)))))
theorem call_dictPT (hcalm : X.calm = true) (hu : X.A.units + 2 < cLine) : CallR X (.type "dict") (rDictPT X.K) := by
  intro pins s σ H xs us Q I r q
  obtain ⟨a, L, ex, hq, hL, q⟩ := q
  subst ex
  obtain ⟨u, eu, rx⟩ := vals1 r
  subst eu
  obtain rfl : u = Value.ref a := rx
  obtain ⟨its, rv, pl, hz⟩ := I.list hq
  have ei : its = L.map fun z => Value.ref z.p := by
    have rv' : Vals ((L.map fun z => z.p).map V.ref) its := by
      rw [List.map_map]
      exact rv
    rw [refs_at rv', List.map_map]
    rfl
  subst ei
  rw [List.length_map] at hz
  obtain ⟨vs, hvl, hvs⟩ := prt_vals I fun z hz => (hL z hz).1
  obtain ⟨o, n, ho, hc, hd, hdat⟩ := pl
  -- the pairs
  let ps : List (Value × Value) := (L.zip vs).map fun y => (Value.ref y.1.b, y.2)
  let PS : List (List Key × Addr × Value) := (L.zip vs).map fun y => (y.1.k, y.1.b, y.2)
  let Ts : Nat → Addr := fun i => ((L[i]?).map (·.p)).getD 0
  have lz : (L.zip vs).length = L.length := by simp [hvl]
  have lps : ps.length = L.length := by simp [ps, hvl]
  have zipAt : ∀ (j : Nat) y, (L.zip vs)[j]? = some y → L[j]? = some y.1 ∧ vs[j]? = some y.2 := fun j y e => by
    have := List.getElem?_zip_eq_some.mp e
    exact this
  have PI : PairItems s.heap (L.map fun z => Value.ref z.p).toArray Ts ps := by
    refine ⟨by simp [ps, hvl], fun j k v e => ?_⟩
    have e' : ((L.zip vs).map fun y => (Value.ref y.1.b, y.2))[j]? = some (k, v) := e
    rw [List.getElem?_map] at e'
    cases hy : (L.zip vs)[j]? with
    | none => rw [hy] at e'; cases e'
    | some y =>
      rw [hy] at e'
      have e' := Option.some.inj e'
      obtain ⟨h1, h2⟩ := zipAt j y hy
      obtain ⟨u', g1, g2, _⟩ := hvs j y.1 h1
      rw [h2] at g1
      have g1 := Option.some.inj g1
      have ek : Value.ref y.1.b = k := congrArg Prod.fst e'
      have ev : y.2 = v := congrArg Prod.snd e'
      subst ek ev
      have eT : Ts j = y.1.p := by
        show ((L[j]?).map (·.p)).getD 0 = _
        rw [h1]
        rfl
      rw [eT]
      refine ⟨by simp [h1], .inl ?_⟩
      rw [g1]
      exact g2
  have hPS : PairsHaveH (tupleKind (mixKind X.prog X.w)) ps.length (PairRel ps) PS := by
    refine ⟨by simp [ps, PS], fun i key v e => ?_⟩
    have e' : ((L.zip vs).map fun y => (Value.ref y.1.b, y.2))[i]? = some (key, v) := e
    rw [List.getElem?_map] at e'
    cases hy : (L.zip vs)[i]? with
    | none => rw [hy] at e'; cases e'
    | some y =>
      rw [hy] at e'
      have e' := Option.some.inj e'
      have ek : Value.ref y.1.b = key := congrArg Prod.fst e'
      have ev : y.2 = v := congrArg Prod.snd e'
      refine ⟨y.1.k, y.1.b, ?_, ek.symm⟩
      show ((L.zip vs).map fun y => (y.1.k, y.1.b, y.2))[i]? = _
      rw [List.getElem?_map, hy, ← ev]
      rfl
  have keyIn : ∀ x ∈ PS, (tupleKind (mixKind X.prog X.w)).is s.heap x.1 x.2.1 := fun x hx => by
    obtain ⟨y, hy, ey⟩ := List.mem_map.mp hx
    subst ey
    exact key_of I.hok (hL y.1 (List.of_mem_zip hy).1).2
  have hKS : KeysStay (tupleKind (mixKind X.prog X.w)) s.heap s.heap.objs.size [] PS := fun h' hk x hx => by
    have k1 := keyIn x hx
    obtain ⟨oo, hoo⟩ := key_there k1
    exact key_keep k1 fun o e => hk _ o (Nat.ne_of_lt (Heap.lt_size hoo)) (fun z => nomatch z) e
  have rel : KT H (L.map fun z => (z.k, z.v)) PS := by
    have go : ∀ (L : List PrT) (vs : List Value), vs.length = L.length → (∀ z ∈ L, SqT X.K H z.p [.ref z.b, z.v] ∧ H z.b = some (.tup (z.k.map kV))) → (∀ (j : Nat) z, L[j]? = some z → ∃ u, vs[j]? = some u ∧ s.heap.IsTuple z.p #[.ref z.b, u] ∧ RelV z.v u) →
        KT H (L.map fun z => (z.k, z.v)) ((L.zip vs).map fun y => (y.1.k, y.1.b, y.2)) := by
      intro L
      induction L with
      | nil => intro vs _ _ _; exact .nil
      | cons z L ih =>
        intro vs hl hL hv
        cases vs with
        | nil => cases hl
        | cons v vs =>
          obtain ⟨u, e1, _, e3⟩ := hv 0 z rfl
          have e1 : v = u := Option.some.inj e1
          subst e1
          exact .cons ⟨rfl, (hL z List.mem_cons_self).2, e3⟩ (ih vs (Nat.succ.inj hl) (fun y hy => hL y (List.mem_cons_of_mem _ hy)) fun j y e => by
            obtain ⟨u, a1, a2⟩ := hv (j + 1) y (by simpa using e)
            exact ⟨u, by simpa using a1, a2⟩)
    exact go L vs hvl hL hvs
  refine PySem.call_dict_pairsH (PairArg.list a _ Ts ps) (I.ok.hd hcalm) ?_ ⟨⟨o, n, ho, hc, hd, hdat⟩, PI⟩ hPS hKS (by rw [lps]; exact hz) fun h' tk hd' k => ?_
  · show X.A.units + 1 + 1 < cLine
    omega
  · have hm : (s.heap.objs.size == sysModules) = false := beq_eq_false_iff_ne.mpr (Nat.ne_of_gt I.big)
    have hn := I.hok.fresh (Nat.le_refl s.heap.objs.size)
    have hlen : (mergeT [] (L.map fun z => (z.k, z.v))).length ≤ sizeLine := by
      refine Nat.le_trans (length_mergeT _ _) ?_
      rw [List.length_map, List.length_nil, Nat.zero_add]
      exact hz
    obtain ⟨oo, es, ep, g1, g2, g3, g4, _, g5⟩ := hd'
    have rel' : KT (upd H s.heap.objs.size (.dT (mergeT [] (L.map fun z => (z.k, z.v))))) (mergeT [] (L.map fun z => (z.k, z.v))) (storedAllH [] PS) := (KT_merge rel .nil).keeps fun b ys e => by
      rw [upd_ne (ne_of_none e hn)]
      exact e
    exact ⟨.ref s.heap.objs.size, _, I.laid (t' := tk) (fun b o e => k b o (fun z => nomatch z) e) (Nat.le_refl _) (show ObjOk X.prog X.w _ _ _ (.dT (mergeT [] (L.map fun z => (z.k, z.v)))) from ⟨hlen, hm, _, rel', oo, es, ep, g1, g2, g3, g4, g5⟩), rfl, q _ hn⟩

/-! ### one pair, written -/
def tDisp1 (tk tv : TE) : TE := fun σ H Q => ∀ p, H p = none → tk σ (upd H p (.dT [])) fun x H1 => tv σ H1 fun y H2 => ∃ (b : Addr) (k : List Key), x = .ref b ∧ H2 p = some (.dT []) ∧ H2 b = some (.tup (k.map kV)) ∧ Q (.ref p) (upd H2 p (.dT [(k, y)]))
theorem pe_disp1 {k v : Expr} {pos : Pos} {tk tv : TE} (hu : X.A.units < cLine) (hk : PE X k tk) (hv : PE X v tv) : PE X (.Dict [some k] [v] pos) (tDisp1 tk tv) := by
  refine ⟨fun pins s σ H Q I q => ?_⟩
  have hn := I.hok.fresh (Nat.le_refl s.heap.objs.size)
  have I1 := I.laid (a := s.heap.objs.size) (o := .dT []) (h' := s.heap.push { cls := .type "dict", data := .dict #[] }) (t' := s.toks) (fun _ _ q => Heap.get?_push_of_some _ q) (Nat.le_refl _) (dt_empty s.heap I.big)
  rw [arm_eval_Dict, zip_pairTrees [some k] [v] X.env pos rfl rfl, dictDisplay_pairs (pairTrees [some k] [v] X.env pos) (by intro z; cases z) (by show 1 < 17; decide)]
  refine wpAny_bind (wpAny_standAt (wpAny_bind (wpAny_subDictH (knd := tupleKind (mixKind X.prog X.w)) (Q := fun d s' => wpAny (model X.prog X.w) X.A (pure (Value.ref d)) (EP X pins σ Q) X.xe s') hu (by show 1 ≤ 15; decide) ?_)))
  refine pairTrees_cons_walk (thn (hk.run pins _ σ _ _ I1 (q _ hn)) fun u1 s1 ⟨x, H1, I2, rx, q1⟩ => thn (hv.run pins s1 σ H1 _ I2 q1) fun u2 s2 ⟨y, H2, I3, ry, q2⟩ => pairTrees_nil_walk ?_)
  obtain ⟨b, kk, ex, ep, eb, q2⟩ := q2
  subst ex
  obtain rfl : u1 = Value.ref b := rx
  obtain ⟨z, hd, xs0, r0, dd⟩ := dt_of I3.hok ep
  cases r0
  refine ⟨[(kk, b, u2)], ⟨rfl, rfl, key_of I3.hok eb, trivial⟩, dd, fun h' tk hd' hs => wpAny_pure ?_⟩
  obtain ⟨oo, es, ep', g1, g2, g3, g4, _, g5⟩ := hd'
  refine ⟨.ref s.heap.objs.size, upd H2 s.heap.objs.size (.dT [(kk, y)]), d_write (t' := tk) I3 (by rw [ep]; exact True.intro) hs ⟨oo, g1⟩ ⟨by show 1 ≤ sizeLine; decide, hd, [(kk, b, u2)], ?_, oo, es, ep', g1, g2, g3, g4, g5⟩, rfl, q2⟩
  refine .cons ⟨rfl, ?_, ry⟩ .nil
  rw [upd_ne (ne_of eb ep (fun z => nomatch z))]
  exact eb
end
end K18

set_option Elab.async false
set_option linter.all false
set_option maxRecDepth 100000
set_option maxHeartbeats 4000000
/-! sorted(d), d a dict whose keys are pairs of ints; sorted(t), t a tuple of ints. -/
namespace K18
open PySem PySem.Spec PyProof.Rows L2
def pk (H : Hp) : V → Int × Int
  | .ref t => match H t with
    | some (.tup [.int i, .int j]) => (i, j)
    | _ => (0, 0)
  | _ => (0, 0)
theorem pk_at {H : Hp} {t : Addr} {i j : Int} (h : H t = some (.tup [.int i, .int j])) : pk H (.ref t) = (i, j) := by
  show (match H t with
    | some (.tup [.int i, .int j]) => (i, j)
    | _ => ((0, 0) : Int × Int)) = _
  rw [h]
abbrev pkey (p : Int × Int) : List Key := [Sum.inl p.1, Sum.inl p.2]
def rSortT : List V → Hp → VK → Prop := fun xs H Q => ∃ (a : Addr) (kvs : List (List Key × V)) (ks : List (Int × Int)), xs = [.ref a] ∧ Rd H a (.dT kvs) ∧ kvs.map (·.1) = ks.map pkey ∧
  ∀ (ys : List V) (p : Addr), H p = none → (ys.map (pk H)).Perm ks → SrtO.Srtd SrtO.lexB (ys.map (pk H)) → (∀ y ∈ ys, ∃ t, y = .ref t ∧ H t = some (.tup [.int (pk H y).1, .int (pk H y).2])) → Q (.ref p) (upd H p (.lst ys))
section
variable {X : Cx}
theorem call_sortedT (hcalm : X.calm = true) : CallR X (.builtin "sorted") rSortT := by
  intro pins s σ H xs us Q I r q
  obtain ⟨d, kvs, kk, rfl, hd, hkk, q⟩ := q
  obtain ⟨u, rfl, rx⟩ := r.one
  cases rx
  obtain ⟨z, hs, ks, pr, o, es, ep, ho, hx, hdt, he, hn⟩ := (show ObjOk X.prog X.w H s.heap d (.dT kvs) from hd.ok I.hok)
  have l1 : es.size = ks.length := size_of_entries he
  have l2 : kvs.length = ks.length := Paired.length pr
  refine Calls.call_function_entry PyProof.Rows.kind_sorted PyProof.Rows.plain_sorted PyProof.Rows.entry_sorted (PyProof.Rows.args_sorted1 _) ?_
  unfold Builtin.«sorted»
  refine wpAny_bind (m := checkCount "sorted" 1 1 _) (wpAny_pure ?_)
  refine wpAny_bind (PySem.W.kdu_collect (A := X.A.in1) (kdl_raw hs hx hdt) (I.ok.hd hcalm) ho (by omega) fun h' tk acc hk it => ?_)
  have ea : acc.toList = ks.map fun x => Value.ref x.2.1 := by
    have hl : acc.toList.length = ks.length := by rw [Array.length_toList, it.1]; exact l1
    apply List.ext_getElem?
    intro j
    rw [List.getElem?_map]
    cases hj : acc.toList[j]? with
    | none =>
      have h1 := List.getElem?_eq_none_iff.mp hj
      rw [List.getElem?_eq_none (by omega)]
      all_goals rfl
    | some v =>
      obtain ⟨en, hen, hv⟩ := it.2 j v (by rw [← Array.getElem?_toList]; exact hj)
      have qe := entry_at he j
      rw [hen] at qe
      cases hb : ks[j]? with
      | none =>
        rw [hb] at qe
        exact nomatch (show some en = none from qe)
      | some b =>
        rw [hb] at qe
        have e2 : en = entryOfKey (tupleKind (mixKind X.prog X.w)) b := Option.some.inj qe
        rw [hv, e2]
        all_goals rfl
  have I1 : Inv X pins σ H { s with heap := h', toks := tk } := I.kept hk
  -- the key tuples
  have ik : IsKeys H kvs (ks.map fun x => x.2.1) := isKeys_of pr
  have lk : kvs.length = kk.length := by
    have e := congrArg List.length hkk
    rw [List.length_map, List.length_map] at e
    exact e
  have at_ : ∀ (j : Nat) x, ks[j]? = some x → ∃ p, kk[j]? = some p ∧ H x.2.1 = some (.tup [.int p.1, .int p.2]) := by
    have go : ∀ {kvs : List (List Key × V)} {bs : List Addr} {kk : List (Int × Int)}, Paired (fun p b => H b = some (.tup (p.1.map kV))) kvs bs → kvs.map (·.1) = kk.map pkey → ∀ (j : Nat) b, bs[j]? = some b → ∃ p, kk[j]? = some p ∧ H b = some (.tup [.int p.1, .int p.2]) := by
      intro kvs bs kk hp
      induction hp generalizing kk with
      | nil => intro _ j b e; simp at e
      | @cons x b xs bs h t ih =>
        intro e j b' eb
        cases kk with
        | nil => cases e
        | cons p kk =>
          have e1 : x.1 = pkey p := (List.cons.inj e).1
          have e2 := (List.cons.inj e).2
          cases j with
          | zero =>
            have eb : b = b' := Option.some.inj eb
            subst eb
            rw [e1] at h
            exact ⟨p, rfl, h⟩
          | succ j =>
            obtain ⟨p', h1, h2⟩ := ih e2 j b' (by simpa using eb)
            exact ⟨p', by simpa using h1, h2⟩
    intro j x ex
    exact go ik hkk j x.2.1 (by rw [List.getElem?_map, ex]; rfl)
  have ekk : (acc.toList.map backV).map (pk H) = kk := by
    rw [ea, List.map_map, List.map_map]
    apply List.ext_getElem?
    intro j
    rw [List.getElem?_map]
    cases hj : ks[j]? with
    | none =>
      have h1 := List.getElem?_eq_none_iff.mp hj
      rw [List.getElem?_eq_none (by omega)]
      rfl
    | some x =>
      obtain ⟨p, h1, h2⟩ := at_ j x hj
      rw [h1]
      exact congrArg some (pk_at h2)
  have mem_ : ∀ v ∈ acc.toList, ∃ t, v = Value.ref t ∧ H t = some (.tup [.int (pk H (.ref t)).1, .int (pk H (.ref t)).2]) := fun v hv => by
    rw [ea] at hv
    obtain ⟨x, hx1, rfl⟩ := List.mem_map.mp hv
    obtain ⟨j, hj⟩ := List.mem_iff_getElem?.mp hx1
    obtain ⟨p, h1, h2⟩ := at_ j x hj
    refine ⟨_, rfl, ?_⟩
    rw [pk_at h2]
    exact h2
  have hz : acc.toList.length ≤ sizeLine := by rw [ea, List.length_map]; omega
  refine wpAny_bind (wpAny_newList ?_ hz)
  have hoL : (h'.push (seqObj "list" acc.toList.toArray 0)).get? h'.objs.size = some (seqObj "list" acc.toList.toArray 0) := Heap.get?_push_size _ rfl
  show wpAny _ _ _ _ _ { s with heap := h'.push (seqObj "list" acc.toList.toArray 0), toks := tk }
  have hp : ∀ v ∈ acc.toList, Srt.IsPair (h'.push (seqObj "list" acc.toList.toArray 0)) v (pk H (backV v)).1 (pk H (backV v)).2 := fun v hv => by
    obtain ⟨t, rfl, ht⟩ := mem_ v hv
    obtain ⟨_, its2, r2, oo, ho2, hc, n, hd2⟩ := I1.hok _ _ ht
    obtain ⟨u1, u2, rfl, ri, rj⟩ := vals2 r2
    obtain ⟨t1, rfl⟩ := ri
    obtain ⟨t2, rfl⟩ := rj
    exact ⟨t, oo, t1, t2, n, rfl, Heap.get?_push_of_some _ ho2, hc, hd2⟩
  refine wpAny_bind (wpAny_holding (wpAny_call_entry PyProof.Rows.slot_list_sort ⟨_, hoL, rfl⟩ PyProof.Rows.entry_list_sort
    (SrtO.list_sort_ord (s := { s with heap := h'.push (seqObj "list" acc.toList.toArray 0), toks := tk }) (SrtO.swo_lex fun u => pk H (backV u)) hoL hz (fun h2 => SrtO.pairs_sortableO (by omega) hp fun o e => ?_) fun out h1 h2 => ⟨.none, rfl, ?_⟩) (PyProof.Rows.args_list_sort _)))
  · have e' : some o = some (seqObj "list" acc.toList.toArray 0) := e.symm.trans hoL
    cases e'
    intro c
    exact absurd (Value.type.inj c) (by decide)
  · have h3 : ∀ u ∈ out, ∃ a, u = Value.ref a := fun u hu => by
      obtain ⟨t, e, _⟩ := mem_ u (h2.perm.mem_iff.mp hu)
      exact ⟨t, e⟩
    obtain ⟨e', he'⟩ := PyProof.Rows.sortedHeap_at (vs := acc.toList) (out := out.toArray) hoL
    have hlen : (out.map backV).length ≤ sizeLine := by
      rw [List.length_map, h2.perm.length_eq]
      exact hz
    refine wpAny_pure ⟨_, rfl, .ref h'.objs.size, upd H h'.objs.size (.lst (out.map backV)), I1.laid (t' := tk) (fun b u e => ?_) (Nat.le_refl _)
      (show ObjOk X.prog X.w _ _ _ (.lst (out.map backV)) from ⟨hlen, out, e', vals_back h3, he'⟩), rfl, q (out.map backV) _ (I1.hok.fresh (Nat.le_refl _)) ?_ ?_ ?_⟩
    · have hb : b < h'.objs.size := Heap.lt_size e
      rw [PyProof.Rows.sortedHeap_old (Nat.ne_of_lt hb) (by rw [size_push']; exact Nat.lt_succ_of_lt hb)]
      exact Heap.get?_push_of_some _ e
    · have q1 := (h2.perm.map backV).map (pk H)
      rw [ekk] at q1
      exact q1
    · rw [List.map_map]
      exact List.pairwise_map.mpr h1
    · intro y hy
      obtain ⟨v, hv, rfl⟩ := List.mem_map.mp hy
      obtain ⟨t, e, ht⟩ := mem_ v (h2.perm.mem_iff.mp hv)
      subst e
      exact ⟨t, rfl, ht⟩
end
end K18

set_option Elab.async false
set_option linter.all false
set_option maxRecDepth 100000
set_option maxHeartbeats 4000000
/-! max(d.values()), d a dict with tuple keys whose values are ints. -/
namespace K18
open PySem PySem.Spec PyProof.Rows L2
/-- the view d.values() at p -/
def valuesO (p d : Addr) : HO := .ext fun h => h.IsValuesView p d
theorem valuesO_ok {P : Program} {w : World} {H : Hp} {h : Heap} {p d : Addr} (e : h.get? p = some { cls := .type "dict_values", data := .fields #[.ref d] }) : ObjOk P w H h p (valuesO p d) :=
  ⟨⟨_, e, rfl, rfl⟩, ⟨_, e⟩, fun h1 h2 x k => let ⟨o, ho, r⟩ := x; ⟨o, k o ho, r⟩⟩
section
variable {X : Cx}
def rValsT : V → List V → Hp → VK → Prop := fun x xs H Q => ∃ (a : Addr) (kvs : List (List L2.Key × V)), x = .ref a ∧ xs = [] ∧ H a = some (.dT kvs) ∧ ∀ p, H p = none → Q (.ref p) (upd H p (valuesO p a))
theorem paired_get {α β : Type} {F : α → β → Prop} {l : List α} {m : List β} (h : Paired F l m) : ∀ {i : Nat} (h1 : i < l.length) (h2 : i < m.length), F l[i] m[i] := by
  induction h with
  | nil => intro i h1; exact absurd h1 (Nat.not_lt_zero _)
  | cons x _ ih =>
    intro i h1 h2
    cases i with
    | zero => exact x
    | succ i => exact ih (Nat.lt_of_succ_lt_succ h1) (Nat.lt_of_succ_lt_succ h2)
theorem mt_valsT : MtR X "dict.values" rValsT := by
  intro pins s σ H x xs v us Q I rx rxs h
  obtain ⟨a, kvs, rfl, rfl, ha, q⟩ := h
  cases rx
  cases rxs
  obtain ⟨z, hd, xs', rel, o, es, ep, ho, hx, hdat, _⟩ := dt_of I.hok ha
  have hm : s.heap.DictRaw a es ep := ⟨o, ho, hx, hdat⟩
  refine call_meetsIn PySem.F.slot_dict_values hm.typeIs PySem.F.entry_dict_values (PySem.F.args_dict_values_1 _) (meets_dict_values_raw a hd) ⟨⟨es, ep, hm⟩, ?_⟩
  have hf : H s.heap.objs.size = none := I.hok.fresh (Nat.le_refl _)
  exact ⟨.ref s.heap.objs.size, upd H s.heap.objs.size (valuesO s.heap.objs.size a), I.laid (t' := s.toks) (fun b u e => Heap.get?_push_of_some _ e) (Nat.le_refl _) (valuesO_ok (Heap.get?_push_size _ rfl)), rfl, q _ hf⟩
def rMaxT : List V → Hp → VK → Prop := fun xs H Q => ∃ (p a : Addr) (kvs : List (List L2.Key × V)) (ns : List Int), xs = [.ref p] ∧ H p = some (valuesO p a) ∧ H a = some (.dT kvs) ∧ kvs.map Prod.snd = ns.map V.int ∧ 0 < ns.length ∧ ∀ m, m ∈ ns → (∀ y, y ∈ ns → y ≤ m) → Q (.int m) H
theorem cr_maxT (hc : X.calm = true) : CallR X (.builtin "max") rMaxT := by
  intro pins s σ H xs us Q I rx h
  obtain ⟨p, a, kvs, ns, rfl, hp, ha0, hns, hne, q⟩ := h
  rw [Vals.ref1 rx]
  obtain ⟨z, hd, xs', rel, o, es, ep, ho, hx, hdat, he, _⟩ := dt_of I.hok ha0
  have hm : s.heap.DictRaw a es ep := ⟨o, ho, hx, hdat⟩
  have hv : s.heap.IsValuesView p a := (show ObjOk X.prog X.w H s.heap p (valuesO p a) from I.hok p _ hp).1
  have hkn : kvs.length = ns.length := by
    have e := congrArg List.length hns
    rw [List.length_map, List.length_map] at e
    exact e
  have l1 : es.size = xs'.length := size_of_entries he
  have l2 : kvs.length = xs'.length := Paired.length rel
  have hsz : es.size = ns.length := by omega
  have hP : ∀ (i : Nat) v, (∃ hi : i < es.size, v = es[i].val) → ∃ t, v = .int (ns.getD i 0) t := fun i v ⟨hi, ev⟩ => by
    have hi3 : i < ns.length := by omega
    have hi2 : i < kvs.length := by omega
    have hi4 : i < xs'.length := by omega
    have qe := entry_at he i
    rw [Array.getElem?_eq_getElem hi, List.getElem?_eq_getElem hi4] at qe
    have e2 : es[i] = entryOfKey (tupleKind (mixKind X.prog X.w)) xs'[i] := Option.some.inj qe
    have r : RelV kvs[i].2 xs'[i].2.2 := (paired_get rel hi2 hi4).2.2
    have e3 : kvs[i].2 = V.int ns[i] := by
      have z : (kvs.map Prod.snd)[i]? = (ns.map V.int)[i]? := by rw [hns]
      rw [List.getElem?_map, List.getElem?_map, List.getElem?_eq_getElem hi2, List.getElem?_eq_getElem hi3] at z
      exact Option.some.inj z
    have e4 : ns.getD i 0 = ns[i] := by rw [List.getD_eq_getElem?_getD, List.getElem?_eq_getElem hi3] <;> rfl
    rw [e3] at r
    rw [ev, e2, e4]
    exact r
  refine call_max_walk ?_
  refine wpAny_pyIter_values_raw hv hm ?_
  have ha : a < s.heap.objs.size := Heap.lt_size ho
  refine ⟨s.heap.objs.size, [s.heap.objs.size, a], [s.heap.objs.size], es.size, _, _, fun i j => decide (ns.getD i 0 > ns.getD j 0), rfl, Walks.rawValues (show X.A.in1.handled = none from I.ok.hd hc) s.heap.objs.size a (Nat.ne_of_lt ha) es ep, ⟨⟨_, Heap.get?_push_size _ rfl, rfl, rfl⟩, Heap.DictRaw.at hm fun o e => Heap.get?_push_of_some _ e⟩, fun b hb => ?_, by omega, CmpOf.ints_gt (fun i => ns.getD i 0) hP, fun v h' tk hv' hk => ?_⟩
  · show b < (s.heap.push _).objs.size
    rw [size_push']
    rcases List.mem_cons.mp hb with z | z
    · rw [z]
      exact Nat.lt_succ_self _
    · rw [List.mem_singleton.mp z]
      exact Nat.lt_succ_of_lt ha
  · obtain ⟨t, rfl⟩ := hP _ _ hv'
    obtain ⟨m1', m2'⟩ := argBest_gt (fun i => ns.getD i 0) (es.size - 1)
    have m1 : argBest (fun i j => decide (ns.getD i 0 > ns.getD j 0)) (es.size - 1) ≤ es.size - 1 := m1'
    have m2 : ∀ j, j ≤ es.size - 1 → ns.getD j 0 ≤ ns.getD (argBest (fun i j => decide (ns.getD i 0 > ns.getD j 0)) (es.size - 1)) 0 := m2'
    have hk2 : ∀ b o, s.heap.get? b = some o → h'.get? b = some o := fun b o e => hk b o (fun z => by rw [List.mem_singleton.mp z] at e; exact absurd (Heap.lt_size e) (Nat.lt_irrefl _)) (Heap.get?_push_of_some _ e)
    refine ⟨.int _, H, I.kept (t' := tk) hk2, ⟨t, rfl⟩, q _ (PySem.getD_mem (by omega)) fun y hy => ?_⟩
    obtain ⟨j, hj, e⟩ := List.mem_iff_getElem.mp hy
    have z := m2 j (by omega)
    have e3 : ns.getD j 0 = y := by rw [List.getD_eq_getElem?_getD, List.getElem?_eq_getElem hj, ← e] <;> rfl
    rw [e3] at z
    exact z
end
end K18

set_option Elab.async false
set_option linter.all false
set_option maxRecDepth 100000
set_option maxHeartbeats 4000000
/-! sorted(t), t a tuple of ints. -/
namespace K18
open PySem PySem.Spec PyProof.Rows L2
section
variable {X : Cx}
def rSortTI (K : PySem.W.Frag) : List V → Hp → VK → Prop := fun vs H Q => ∃ (a : Addr) (ns : List Int), vs = [V.ref a] ∧ SqT K H a (ns.map V.int) ∧
  ∀ (ns' : List Int) (p : Addr), ns'.Perm ns → ns'.Pairwise (· ≤ ·) → H p = none → Q (.ref p) (upd H p (.lst (ns'.map V.int)))
theorem cr_sortedTI : CallR X (.builtin "sorted") (rSortTI X.K) := by
  intro pins s σ H vs us Q I r h
  obtain ⟨a, ns, rfl, hs, q⟩ := h
  obtain ⟨its, rv, ⟨o, ho, hc, n, hd⟩, hz⟩ := I.tuple hs
  rw [Vals.ref1 r]
  have hi := rv.ints
  have hz2 : its.length ≤ sizeLine := by rw [← rv.length]; exact hz
  refine Calls.call_function_entry PyProof.Rows.kind_sorted PyProof.Rows.plain_sorted PyProof.Rows.entry_sorted (PyProof.Rows.args_sorted1 _) ?_
  unfold Builtin.«sorted»
  refine wpAny_bind (m := checkCount "sorted" 1 1 _) (wpAny_pure ?_)
  refine wpAny_bind (wpAny_collect_seq (A := X.A.in1) a (.inr rfl) ho hc hd (fun h' hk => ?_) hz2)
  have I1 : Inv X pins σ H { s with heap := h' } := I.kept (t' := s.toks) hk
  refine wpAny_bind (wpAny_newList ?_ hz2)
  have hoL : (h'.push (seqObj "list" its.toArray 0)).get? h'.objs.size = some (seqObj "list" its.toArray 0) := Heap.get?_push_size _ rfl
  show wpAny _ _ _ _ _ { s with heap := h'.push (seqObj "list" its.toArray 0) }
  refine wpAny_bind (wpAny_holding (wpAny_call_entry PyProof.Rows.slot_list_sort ⟨_, hoL, rfl⟩ PyProof.Rows.entry_list_sort
    (SrtO.list_sort_ord (s := { s with heap := h'.push (seqObj "list" its.toArray 0) }) SrtO.swo_int hoL hz2 (fun h2 => SrtO.ints_sortable hi h2) fun out h1 h2 => ⟨.none, rfl, ?_⟩) (PyProof.Rows.args_list_sort _)))
  obtain ⟨k1, k2, k3⟩ := SrtO.ints_out hi h1 h2
  obtain ⟨e', he'⟩ := PyProof.Rows.sortedHeap_at (vs := its) (out := out.toArray) hoL
  have hlen : ((out.map SrtO.iv).map V.int).length ≤ sizeLine := by
    rw [List.length_map, k2.length_eq]
    rw [List.length_map] at hz
    exact hz
  refine wpAny_pure ⟨_, rfl, .ref h'.objs.size, upd H h'.objs.size (.lst ((out.map SrtO.iv).map V.int)), I1.laid (t' := s.toks) (fun b u e => ?_) (Nat.le_refl _)
    (show ObjOk X.prog X.w _ _ _ (.lst ((out.map SrtO.iv).map V.int)) from ⟨hlen, out, e', vals_of_ints k1, he'⟩), rfl, q _ _ k2 k3 (I1.hok.fresh (Nat.le_refl _))⟩
  have hb : b < h'.objs.size := Heap.lt_size e
  rw [PyProof.Rows.sortedHeap_old (Nat.ne_of_lt hb) (by rw [size_push']; exact Nat.lt_succ_of_lt hb)]
  exact Heap.get?_push_of_some _ e
end
end K18

set_option Elab.async false
set_option linter.all false
set_option maxRecDepth 100000
set_option maxHeartbeats 4000000
/-! try: return a() with several except clauses, each of which returns a text. -/
namespace K18
open PySem PySem.Spec PyProof.Rows L2 LamX
def told (K : PySem.W.Frag) (cls : Value) : List (Addr × Str) → (Str → Prop) → Prop
  | [], _ => False
  | (c, r) :: l, q => ∃ b, PySem.W.exmOne K cls (.ref c) = some b ∧ (b = true → q r) ∧ (b = false → told K cls l q)
def TMany (K : PySem.W.Frag) (L : List (Addr × Str)) : (XK → Hp → VK → Prop) → Hp → VK → Prop := fun tl H Q => tl (fun cls _ H' => told K cls L fun ret => Q (.str ret) H') H Q
def clauses (L : List (Addr × Str)) : List (Value × (Addr → Value → Option Addr → TS)) := L.map fun p => (Value.ref p.1, fun _ _ _ => tRet (tC (.str p.2)))
theorem wMany_told {K : PySem.W.Frag} {D : Ends} {cls : Value} {d : Option Addr} {σ : L2.St} {H : Hp} : ∀ {L : List (Addr × Str)}, told K cls L (fun ret => D.rt (.str ret) H) → wMany K (fun _ _ _ _ => False) D (clauses L) cls d σ H
  | [], h => h
  | (c, r) :: l, ⟨b, h1, h2, h3⟩ => ⟨b, h1, fun hb a _ => h2 hb, fun hb => wMany_told (h3 hb)⟩
section
variable {X : Cx}
theorem told_many {Ng : List Str} {x a q : Str} {sg : Scope} {g : Addr} {cdg : Value} {p1 p2 p3 p8 : Pos} {h₀ : ExceptHandler} {hds : List ExceptHandler} {L : List (Addr × Str)}
    (hh : ∀ (s : Shared) (H : Hp), HdsOk (cxOf C8.CX0 X.prog X.w X.K X.mg X.base Ng x sg g cdg X.A X.stack s H C8.E0).nox (h₀ :: hds) (clauses L)) (h0 : ∀ f : Addr, (L2.start Ng [V.ref f])[0]? = some (some (V.ref f))) :
    GivesTo X Ng x sg g cdg [.Try [.Return (some (.Call (.Name a p1) [] [] p2)) p3] (h₀ :: hds) [] [] p8] a q (TMany X.K L) := by
  intro f c' s H Q tl act hc h
  refine ⟨_, pss_one (ps_try_many (X := (cxOf C8.CX0 X.prog X.w X.K X.mg X.base Ng x sg g cdg X.A X.stack s H C8.E0).nox)
      (tb := fun W D σ H => ∃ Ech : XK, (∀ cls d σ' H', Ech cls d H' → W cls d σ' H') ∧ σ[0]? = some (some (.ref f)) ∧ H c' = some (CodeO c' q) ∧ tl Ech H D.rt)
      rfl rfl LamX.takes0 (fun W pn xe tk _ => ?_) (hh s H)), ?_⟩
  · refine ⟨fun pins s' σ H' D I h' => ?_⟩
    obtain ⟨Ech, hW, h1, h2, h3⟩ := h'
    have hp := act W pn xe Ech p1 p2 tk hW
    have hq := pss_one (ps_ret (pos := p3) hp)
    exact hq.run pins s' σ H' D I ⟨h1, h2, h3⟩
  · exact ⟨fun cls _ H' => told X.K cls L fun ret => Q (.str ret) H', fun cls d σ' H' t => wMany_told t, h0 f, hc, h⟩
end
end K18

set_option Elab.async false
set_option linter.all false
set_option maxRecDepth 100000
set_option maxHeartbeats 2000000
/-! Calls of built-in functions, told as data. -/
namespace K18
open PySem L2
/-! ### pairs, sorted -/
def insP (x : Int × Int) : List (Int × Int) → List (Int × Int)
  | [] => [x]
  | y :: r => if SrtO.lexB y x then y :: insP x r else x :: y :: r
def sortP : List (Int × Int) → List (Int × Int)
  | [] => []
  | x :: r => insP x (sortP r)
theorem insP_perm (x : Int × Int) : ∀ l, (insP x l).Perm (x :: l)
  | [] => List.Perm.refl _
  | y :: r => by
    unfold insP
    split
    · exact ((insP_perm x r).cons y).trans (List.Perm.swap x y r)
    · exact List.Perm.refl _
theorem sortP_perm : ∀ l, (sortP l).Perm l
  | [] => List.Perm.refl _
  | x :: r => (insP_perm x _).trans ((sortP_perm r).cons x)
theorem insP_srtd (x : Int × Int) : ∀ {l}, SrtO.Srtd SrtO.lexB l → SrtO.Srtd SrtO.lexB (insP x l)
  | [], _ => List.pairwise_singleton _ _
  | y :: r, h => by
    have h1 := List.pairwise_cons.mp h
    unfold insP
    split
    · rename_i c
      refine List.pairwise_cons.mpr ⟨fun z hz => ?_, insP_srtd x h1.2⟩
      rcases List.mem_cons.mp ((insP_perm x r).mem_iff.mp hz) with e | e
      · rw [e]
        exact (SrtO.lexB_no.mpr (by have := SrtO.lexB_iff.mp c; omega))
      · exact h1.1 z e
    · rename_i c
      have c : SrtO.lexB y x = false := by simpa using c
      refine List.pairwise_cons.mpr ⟨fun z hz => ?_, h⟩
      rcases List.mem_cons.mp hz with e | e
      · rw [e]
        exact c
      · have a := SrtO.lexB_no.mp c
        have b := SrtO.lexB_no.mp (h1.1 z e)
        exact SrtO.lexB_no.mpr (by omega)
theorem sortP_srtd : ∀ l, SrtO.Srtd SrtO.lexB (sortP l)
  | [] => List.Pairwise.nil
  | x :: r => insP_srtd x (sortP_srtd r)
theorem sortP_uniq {l zs : List (Int × Int)} (hp : zs.Perm l) (hs : SrtO.Srtd SrtO.lexB zs) : zs = sortP l :=
  List.Perm.eq_of_pairwise (fun a b _ _ h1 h2 => by
    have a' := SrtO.lexB_no.mp h1
    have b' := SrtO.lexB_no.mp h2
    exact Prod.ext (by omega) (by omega)) hs (sortP_srtd l) (hp.trans (sortP_perm l).symm)
def insI (x : Int) : List Int → List Int
  | [] => [x]
  | y :: r => if y < x then y :: insI x r else x :: y :: r
def sortZ : List Int → List Int
  | [] => []
  | x :: r => insI x (sortZ r)
theorem insI_perm (x : Int) : ∀ l, (insI x l).Perm (x :: l)
  | [] => List.Perm.refl _
  | y :: r => by
    unfold insI
    split
    · exact ((insI_perm x r).cons y).trans (List.Perm.swap x y r)
    · exact List.Perm.refl _
theorem sortZ_perm : ∀ l, (sortZ l).Perm l
  | [] => List.Perm.refl _
  | x :: r => (insI_perm x _).trans ((sortZ_perm r).cons x)
theorem insI_srtd (x : Int) : ∀ {l : List Int}, l.Pairwise (· ≤ ·) → (insI x l).Pairwise (· ≤ ·)
  | [], _ => List.pairwise_singleton _ _
  | y :: r, h => by
    have h1 := List.pairwise_cons.mp h
    unfold insI
    split
    · rename_i c
      refine List.pairwise_cons.mpr ⟨fun z hz => ?_, insI_srtd x h1.2⟩
      rcases List.mem_cons.mp ((insI_perm x r).mem_iff.mp hz) with e | e
      · rw [e]
        exact Int.le_of_lt c
      · exact h1.1 z e
    · rename_i c
      refine List.pairwise_cons.mpr ⟨fun z hz => ?_, h⟩
      rcases List.mem_cons.mp hz with e | e
      · rw [e]
        exact Int.not_lt.mp c
      · exact Int.le_trans (Int.not_lt.mp c) (h1.1 z e)
theorem sortZ_srtd : ∀ l : List Int, (sortZ l).Pairwise (· ≤ ·)
  | [] => List.Pairwise.nil
  | x :: r => insI_srtd x (sortZ_srtd r)
theorem sortZ_uniq {l zs : List Int} (hp : zs.Perm l) (hs : zs.Pairwise (· ≤ ·)) : zs = sortZ l :=
  List.Perm.eq_of_pairwise (fun a b _ _ h1 h2 => Int.le_antisymm h1 h2) hs (sortZ_srtd l) (hp.trans (sortZ_perm l).symm)
/-- a node, told as data -/
abbrev nodeD (p : Int × Int) : PyData := .tuple [.int p.1, .int p.2]
section
variable {Pf : Addr} {σ : L2.St} {B B1 H : Hp} {te ta tb tc : TE} {r r1 r2 : Rl} {d e : PyData} {K : PySem.W.Frag} {ds es : List PyData}
theorem eg_cb1 {c : List V → Hp → VK → Prop} (h : Eg Pf te σ B r1) (hc : ∀ v B1 H1, Ex B B1 → Sb Pf B1 H1 → r1 v B1 → ∀ Q : VK, (∀ w B2 H2, Tr Pf B1 H1 B2 H2 → r w B2 → Q w H2) → c [v] H1 Q) : Eg Pf (tCB c (tCons te tNil)) σ B r := fun H e Q q =>
  h H e _ fun v B1 H1 t1 q1 => hc v B1 H1 t1.bas t1.sub q1 Q fun w B2 H2 t2 q2 => q w B2 H2 (t1.trans t2) q2
def rTupOf (K : PySem.W.Frag) : List V → Hp → VK → Prop := fun xs H Q => ∃ p ys, xs = [.ref p] ∧ ((SqL K H p ys ∧ ∀ l, H l = none → Q (.ref l) (upd H l (.tup ys))) ∨ (SqT K H p ys ∧ Q (.ref p) H))
def rLstOf (K : PySem.W.Frag) : List V → Hp → VK → Prop := fun xs H Q => ∃ p ys, xs = [.ref p] ∧ (SqL K H p ys ∨ SqT K H p ys) ∧ ∀ l, H l = none → Q (.ref l) (upd H l (.lst ys))
def rLen (K : PySem.W.Frag) : List V → Hp → VK → Prop := fun xs H Q => ∃ p ys, xs = [.ref p] ∧ (SqL K H p ys ∨ SqT K H p ys) ∧ Q (.int ys.length) H
def rAbs : List V → Hp → VK → Prop := fun xs H Q => ∃ i, xs = [.int i] ∧ Q (.int (if i < 0 then -i else i)) H
def rMin2 : List V → Hp → VK → Prop := fun xs H Q => ∃ i j, xs = [.int i, .int j] ∧ Q (.int (if j < i then j else i)) H
theorem ed_tupOf (h : Ed Pf te σ B (.list ds)) : Ed Pf (tCB (rTupOf K) (tCons te tNil)) σ B (.tuple ds) := eg_cb1 h fun v B1 H1 _ e1 r1 Q q => by
  obtain ⟨a, xs, rfl, h1, h2⟩ := R.lst_inv r1
  exact ⟨a, xs, rfl, .inl ⟨SqL.of (e1.at h1), fun p hp => q _ _ _ (.new e1 hp) (.tup upd_same (h2.mono (Ex.new (e1.fresh hp))))⟩⟩
theorem ed_lstOf (h : Ed Pf te σ B (.tuple ds)) : Ed Pf (tCB (rLstOf K) (tCons te tNil)) σ B (.list ds) := eg_cb1 h fun v B1 H1 _ e1 r1 Q q => by
  obtain ⟨a, xs, rfl, h1, h2⟩ := R.tup_inv r1
  exact ⟨a, xs, rfl, .inr (SqT.of (e1.at h1)), fun p hp => q _ _ _ (.new e1 hp) (.lst upd_same (h2.mono (Ex.new (e1.fresh hp))))⟩
theorem ed_lstOfL (h : Ed Pf te σ B (.list ds)) : Ed Pf (tCB (rLstOf K) (tCons te tNil)) σ B (.list ds) := eg_cb1 h fun v B1 H1 _ e1 r1 Q q => by
  obtain ⟨a, xs, rfl, h1, h2⟩ := R.lst_inv r1
  exact ⟨a, xs, rfl, .inl (SqL.of (e1.at h1)), fun p hp => q _ _ _ (.new e1 hp) (.lst upd_same (h2.mono (Ex.new (e1.fresh hp))))⟩
theorem ev_lenL (h : Ed Pf te σ B (.list ds)) : Ev Pf (tCB (rLen K) (tCons te tNil)) σ B (.int (ds.length : Int)) := ev_eg (eg_cb1 h fun v B1 H1 _ e1 r1 Q q => by
  obtain ⟨a, xs, rfl, h1, h2⟩ := R.lst_inv r1
  refine ⟨a, xs, rfl, .inl (SqL.of (e1.at h1)), q _ _ _ (.refl e1) ?_⟩
  rw [h2.length]
  exact rfl)
theorem ev_abs {i : Int} (h : Ev Pf te σ B (.int i)) : Ev Pf (tCB rAbs (tCons te tNil)) σ B (.int (if i < 0 then -i else i)) := fun H e Q q => h H e _ fun H1 e1 => ⟨i, rfl, q H1 e1⟩
theorem ev_min2 {i j : Int} (h1 : Ev Pf ta σ B (.int i)) (h2 : Ev Pf tb σ B (.int j)) : Ev Pf (tCB rMin2 (tCons ta (tCons tb tNil))) σ B (.int (if j < i then j else i)) := fun H e Q q =>
  h1 H e _ fun H1 e1 => h2 H1 (e.ax e1) _ fun H2 e2 => ⟨i, j, rfl, q H2 (e1.trans e2)⟩
theorem ed_cat (ha : Ed Pf ta σ B (.list ds)) (hb : ∀ B', Ex B B' → Ed Pf tb σ B' (.list es)) (hl : (ds ++ es).length ≤ 100000) : Ed Pf (tOp rCat ta tb) σ B (.list (ds ++ es)) := fun H e Q q =>
  ha H e _ fun v B1 H1 t1 r1 => hb B1 t1.bas H1 t1.sub _ fun w B2 H2 t2 r2 => by
    obtain ⟨a, xs, rfl, h1, h2⟩ := R.lst_inv r1
    obtain ⟨b, ys, rfl, g1, g2⟩ := R.lst_inv r2
    refine ⟨a, b, xs, ys, rfl, rfl, t2.sub.at (t2.bas _ _ h1), t2.sub.at g1, by rw [h2.length, g2.length, ← List.length_append]; exact sz_of hl, fun p hp => ?_⟩
    exact q _ _ _ ((t1.trans t2).trans (.new t2.sub hp)) (.lst upd_same ((Rs.app (h2.mono t2.bas) g2).mono (Ex.new (t2.sub.fresh hp))))
theorem ed_sortI {ns : List Int} (h : Ed Pf te σ B (.list (ns.map .int))) : Ed Pf (tCB (rSortedI K) (tCons te tNil)) σ B (.list ((sortZ ns).map .int)) := eg_cb1 h fun v B1 H1 _ e1 r1 Q q => by
  obtain ⟨a, xs, rfl, h1, h2⟩ := R.lst_inv r1
  obtain rfl := Rs.of_ints h2
  refine ⟨a, ns, rfl, SqL.of (e1.at h1), fun zs p hz hs hp => ?_⟩
  rw [sortZ_uniq hz hs]
  exact q _ _ _ (.new e1 hp) (.lst upd_same (Rs.ints _))
theorem ed_sortTI {ns : List Int} (h : Ed Pf te σ B (.tuple (ns.map .int))) : Ed Pf (tCB (rSortTI K) (tCons te tNil)) σ B (.list ((sortZ ns).map .int)) := eg_cb1 h fun v B1 H1 _ e1 r1 Q q => by
  obtain ⟨a, xs, rfl, h1, h2⟩ := R.tup_inv r1
  obtain rfl := Rs.of_ints h2
  refine ⟨a, ns, rfl, SqT.of (e1.at h1), fun zs p hz hs hp => ?_⟩
  rw [sortZ_uniq hz hs]
  exact q _ _ _ (.new e1 hp) (.lst upd_same (Rs.ints _))
/-! max of ints that are there -/
def maxZ (ns : List Int) : Int := ns.foldl (fun a b => if b > a then b else a) (ns.headD 0)
theorem foldmax (l : List Int) : ∀ a : Int, (l.foldl (fun a b => if b > a then b else a) a ∈ a :: l) ∧ ∀ y ∈ a :: l, y ≤ l.foldl (fun a b => if b > a then b else a) a := by
  induction l with
  | nil => intro a; simp
  | cons b l ih =>
    intro a
    obtain ⟨i1, i2⟩ := ih (if b > a then b else a)
    refine ⟨?_, fun y hy => ?_⟩
    · show l.foldl _ (if b > a then b else a) ∈ _
      rcases List.mem_cons.mp i1 with e | e
      · rw [e]
        split
        · simp
        · simp
      · exact List.mem_cons_of_mem _ (List.mem_cons_of_mem _ e)
    · show y ≤ l.foldl _ (if b > a then b else a)
      rcases List.mem_cons.mp hy with e | hy
      · refine Int.le_trans ?_ (i2 _ List.mem_cons_self)
        rw [e]
        split <;> omega
      · rcases List.mem_cons.mp hy with e | hy
        · refine Int.le_trans ?_ (i2 _ List.mem_cons_self)
          rw [e]
          split <;> omega
        · exact i2 y (List.mem_cons_of_mem _ hy)
theorem maxZ_uniq {ns : List Int} {m : Int} (h0 : 0 < ns.length) (h1 : m ∈ ns) (h2 : ∀ y ∈ ns, y ≤ m) : m = maxZ ns := by
  cases ns with
  | nil => cases h0
  | cons a l =>
    obtain ⟨i1, i2⟩ := foldmax (a :: l) a
    have z : maxZ (a :: l) = (a :: l).foldl (fun a b => if b > a then b else a) a := rfl
    rw [z]
    refine Int.le_antisymm (i2 m (List.mem_cons_of_mem _ h1)) (h2 _ ?_)
    rcases List.mem_cons.mp i1 with e | e
    · rw [e]; exact List.mem_cons_self
    · exact e
theorem ev_maxL {ns : List Int} (h : Ed Pf te σ B (.list (ns.map .int))) (h0 : 0 < ns.length) : Ev Pf (tCB (rMax K) (tCons te tNil)) σ B (.int (maxZ ns)) := ev_eg (eg_cb1 h fun v B1 H1 _ e1 r1 Q q => by
  obtain ⟨a, xs, rfl, h1, h2⟩ := R.lst_inv r1
  obtain rfl := Rs.of_ints h2
  refine ⟨a, ns, rfl, SqL.of (e1.at h1), h0, fun m hm hl => ?_⟩
  rw [maxZ_uniq h0 hm hl]
  exact q _ _ _ (.refl e1) rfl)
/-! max(d.values()) -/
theorem ev_maxT {m : List (List L2.Key × PyData)} {ns : List Int} (h : Eg Pf te σ B (rT m)) (hm : m.map (·.2) = ns.map .int) (h0 : 0 < ns.length) : Ev Pf (tCB rMaxT (tCons (tBM0 K "dict" rValsT te) tNil)) σ B (.int (maxZ ns)) := fun H e Q q =>
  h H e _ fun v B1 H1 t1 r1 => by
    obtain ⟨a, ks, rfl, h1, h2⟩ := r1
    have hk : ks.map Prod.snd = ns.map V.int := by
      have go : ∀ {ks : List (List L2.Key × V)} {m : List (List L2.Key × PyData)} {ns : List Int}, Kvs B1 ks m → m.map (·.2) = ns.map .int → ks.map Prod.snd = ns.map V.int := by
        intro ks m ns hk
        induction hk generalizing ns with
        | nil =>
          intro e
          cases ns with
          | nil => rfl
          | cons _ _ => cases e
        | @cons k v d ks ds hr _ ih =>
          intro e
          cases ns with
          | nil => cases e
          | cons n ns =>
            have e1 := (List.cons.inj e).1
            have e1 : d = .int n := e1
            subst e1
            have e2 := ih (List.cons.inj e).2
            show v :: ks.map Prod.snd = V.int n :: ns.map V.int
            rw [R.int_inv hr, e2]
      exact go h2 hm
    have ha := t1.sub.at h1
    refine ⟨.inr (.inr (.inl ⟨rfl, .inr ⟨ks, ha⟩⟩)), a, ks, rfl, rfl, ha, fun p hp => ?_⟩
    have e2 : Ax Pf H1 (upd H1 p (valuesO p a)) := .new t1.sub hp
    refine ⟨p, a, ks, ns, rfl, upd_same, (by rw [upd_ne (ne_of_none ha hp)]; exact ha), hk, h0, fun m hm hl => ?_⟩
    rw [maxZ_uniq h0 hm hl]
    exact q _ (t1.act.trans e2)
/-! dicts -/
theorem node_inv {v : V} {p : Int × Int} (h : R B v (nodeD p)) : ∃ b, v = .ref b ∧ B b = some (.tup ((pkey p).map kV)) := by
  obtain ⟨b, xs, rfl, h1, h2⟩ := R.tup_inv h
  cases h2 with
  | cons ra h2 =>
    cases h2 with
    | cons rb h2 =>
      cases h2
      cases ra
      cases rb
      exact ⟨b, rfl, h1⟩
theorem ed_dgetT {m : List (List L2.Key × PyData)} {p : Int × Int} (h : Eg Pf ta σ B (rT m)) (hy : ∀ B', Ex B B' → Ed Pf tb σ B' (nodeD p)) (hm : atD m (pkey p) = some d) : Ed Pf (tDGet ta tb) σ B d := fun H e Q q =>
  h H e _ fun v B1 H1 t1 r1 => hy B1 t1.bas H1 t1.sub _ fun w B2 H2 t2 r2 => by
    obtain ⟨a, ks, rfl, h1, h2⟩ := r1
    obtain ⟨b, rfl, hb⟩ := node_inv r2
    obtain ⟨x, e1, e2⟩ := h2.some hm
    refine ⟨a, x, rfl, ?_, q x B2 H2 (t1.trans t2) (R.mono t2.bas d e2)⟩
    have z := DGet.t (k := pkey p) (t2.sub.at (t2.bas _ _ h1)) (t2.sub.at hb)
    rw [e1] at z
    exact z
theorem ed_dgetK {m : List (L2.Key × PyData)} {k : L2.Key} (h : Eg Pf ta σ B (rK m)) (hy : ∀ B', Ex B B' → Ev Pf tb σ B' (kV k)) (hm : atD m k = some d) : Ed Pf (tDGet ta tb) σ B d := fun H e Q q =>
  h H e _ fun v B1 H1 t1 r1 => hy B1 t1.bas H1 t1.sub _ fun H2 t2 => by
    obtain ⟨a, ks, rfl, h1, h2⟩ := r1
    obtain ⟨x, e1, e2⟩ := h2.some hm
    refine ⟨a, x, rfl, ?_, q x B1 H2 (t1.trans (.step t1.sub t2)) e2⟩
    have z := DGet.k (k := k) ((t1.sub.ax t2).at h1)
    rw [e1] at z
    exact z
def mergeD {κ : Type} [DecidableEq κ] (m more : List (κ × PyData)) : List (κ × PyData) := more.foldl (fun acc kv => putD acc kv.1 kv.2) m
theorem kvs_merge {κ : Type} [DecidableEq κ] : ∀ {more : List (κ × V)} {mored : List (κ × PyData)} {ks : List (κ × V)} {ds : List (κ × PyData)}, Kvs B more mored → Kvs B ks ds → Kvs B (more.foldl (fun acc kv => putK acc kv.1 kv.2) ks) (mergeD ds mored) := by
  intro more mored ks ds h
  induction h generalizing ks ds with
  | nil => exact fun h => h
  | cons hr _ ih => exact fun h => ih (h.put hr)
/-- dict([(node, d), ..]) -/
theorem eg_dictPT {L : List ((Int × Int) × PyData)} (h : Ed Pf te σ B (.list (L.map fun p => .tuple [nodeD p.1, p.2]))) : Eg Pf (tCB (rDictPT K) (tCons te tNil)) σ B (rT (mergeD [] (L.map fun p => (pkey p.1, p.2)))) := eg_cb1 h fun v B1 H1 _ e1 r1 Q q => by
  obtain ⟨a, xs, rfl, h1, h2⟩ := R.lst_inv r1
  have go : ∀ {L : List ((Int × Int) × PyData)} {xs : List V}, Rs B1 xs (L.map fun p => .tuple [nodeD p.1, p.2]) → ∃ M : List PrT, xs = M.map (fun z => V.ref z.p) ∧ (∀ z ∈ M, SqT K H1 z.p [.ref z.b, z.v] ∧ H1 z.b = some (.tup (z.k.map kV))) ∧ Kvs B1 (M.map fun z => (z.k, z.v)) (L.map fun p => (pkey p.1, p.2)) := by
    intro L
    induction L with
    | nil =>
      intro xs h
      cases h
      exact ⟨[], rfl, fun z hz => absurd hz List.not_mem_nil, .nil⟩
    | cons y L ih =>
      intro xs h
      cases h with
      | cons ra h =>
        obtain ⟨M, e, hM, hk⟩ := ih h
        obtain ⟨p, ys, rfl, g1, g2⟩ := R.tup_inv ra
        cases g2 with
        | cons r1 g2 =>
          cases g2 with
          | cons r2 g2 =>
            cases g2
            obtain ⟨b, rfl, hb⟩ := node_inv r1
            refine ⟨⟨p, b, pkey y.1, _⟩ :: M, by rw [e]; rfl, fun z hz => ?_, .cons r2 hk⟩
            rcases List.mem_cons.mp hz with ez | hz
            · rw [ez]
              exact ⟨SqT.of (e1.at g1), e1.at hb⟩
            · exact hM z hz
  obtain ⟨M, rfl, hM, hk⟩ := go h2
  exact ⟨a, M, rfl, SqL.of (e1.at h1), hM, fun p hp => q _ _ _ (.new e1 hp) ⟨p, _, rfl, upd_same, (kvs_merge hk .nil).mono (Ex.new (e1.fresh hp))⟩⟩
/-- sorted(d), d a dict with nodes as keys -/
theorem ed_sortT {m : List (List L2.Key × PyData)} {ns : List (Int × Int)} (h : Eg Pf te σ B (rT m)) (hm : m.map (·.1) = ns.map pkey) : Ed Pf (tCB rSortT (tCons te tNil)) σ B (.list ((sortP ns).map nodeD)) := eg_cb1 h fun v B1 H1 _ e1 r1 Q q => by
  obtain ⟨a, ks, rfl, h1, h2⟩ := r1
  refine ⟨a, ks, ns, rfl, .inl (e1.at h1), (Kvs.keys h2).trans hm, fun ys p hp hperm hs hy => ?_⟩
  have t1 := Tr.tups e1
  have ez := sortP_uniq hperm hs
  have hR : Rs (un B1 (tupOf H1)) ys ((sortP ns).map nodeD) := by
    rw [← ez]
    have go : ∀ ys : List V, (∀ y ∈ ys, ∃ t, y = V.ref t ∧ H1 t = some (.tup [.int (pk H1 y).1, .int (pk H1 y).2])) → Rs (un B1 (tupOf H1)) ys ((ys.map (pk H1)).map nodeD) := by
      intro ys
      induction ys with
      | nil => exact fun _ => .nil
      | cons y ys ih =>
        intro h
        obtain ⟨t, rfl, ht⟩ := h _ List.mem_cons_self
        exact .cons (.tup (tups_at e1 ht) (.cons (.int _) (.cons (.int _) .nil))) (ih fun y hy => h y (List.mem_cons_of_mem _ hy))
    exact go ys hy
  exact q _ _ _ (t1.trans (.new t1.sub hp)) (.lst upd_same (hR.mono (Ex.new (t1.sub.fresh hp))))
end
end K18

set_option Elab.async false
set_option linter.all false
set_option maxRecDepth 100000
set_option maxHeartbeats 2000000
/-! Objects that are changed beside the base; displays of dicts; dict(..) with ints as keys. -/
namespace K18
open PySem L2
section
variable {Pf : Addr} {σ : L2.St} {B B1 B2 H H1 H2 : Hp} {te ta tb tc : TE} {r r1 r2 : Rl} {d e : PyData} {K : PySem.W.Frag} {ds es : List PyData} {p : Addr} {o : HO}
theorem Tr.take (t : Tr Pf B H B2 H2) (hp : H p = none) (h2 : H2 p = some o) (hb : B2 p = none) (n : p ≠ Pf) : Tr Pf B H (upd B2 p o) H2 := by
  refine ⟨t.act, t.bas.trans (Ex.new hb), ⟨fun a u h => ?_, by rw [upd_ne (Ne.symm n)]; exact t.sub.no, t.sub.tab⟩, fun a u h1 h3 h4 => ?_⟩
  · by_cases z : a = p
    · rw [z] at h ⊢
      rw [upd_same] at h
      rw [← h]
      exact h2
    · rw [upd_ne z] at h
      exact t.sub.ex a u h
  · rw [upd_ne (ne_of_none h3 hp)]
    exact t.avo a u h1 h3 h4
theorem Tr.mutn (t : Tr Pf B H B2 H2) (hp : H p = none) (n : p ≠ Pf) (hb : B2 p = none) : Tr Pf B H B2 (upd H2 p o) := ⟨t.act.mut hp n, t.bas, t.sub.mut hb n, t.avo⟩
/-- a new object beside the base -/
theorem Tr.side (e : Sb Pf B H) (hp : H p = none) : Tr Pf B H B (upd H p o) := (Tr.refl e).mutn hp (e.ne hp) (e.fresh hp)
/-- .. kept by what goes on -/
theorem Tr.held (t : Tr Pf B H B2 H2) (n : p ≠ Pf) (hb : B p = none) (h : H p = some o) (ho : ∀ xs, o ≠ .tup xs) : B2 p = none ∧ H2 p = some o := ⟨t.avo p o hb h ho, t.act.keep p o n h⟩
theorem q_if {D : Ends} {tt : TT} {tu tz : TS} {b : Bool} (h : EvT Pf tt σ B b) (e : Sb Pf B H) (h1 : b = true → ∀ H1, Ax Pf H H1 → tu { D with nx := tz D } σ H1) (h2 : b = false → ∀ H1, Ax Pf H H1 → tz D σ H1) : tSeq (tIfS tt tu tNext) tz D σ H := h H e _ fun H1 e1 => by
  cases b with
  | true => exact h1 rfl H1 e1
  | false => exact h2 rfl H1 e1
def EpK (Pf : Addr) (trs : List (TE × TE)) (σ : L2.St) (B : Hp) (L : List (L2.Key × PyData)) : Prop := ∀ H, Sb Pf B H → ∀ Q : List (V × V) → Hp → Prop,
  (∀ (kvs : List (L2.Key × V)) B' H', Tr Pf B H B' H' → Kvs B' kvs L → Q (kvs.map fun kv => (kV kv.1, kv.2)) H') → tPairs trs σ H Q
theorem ep_nil : EpK Pf [] σ B [] := fun H e Q q => q [] B H (.refl e) .nil
theorem ep_cons {trs : List (TE × TE)} {k : L2.Key} {L : List (L2.Key × PyData)} (hk : Ev Pf ta σ B (kV k)) (hv : Ed Pf tb σ B d) (hr : ∀ B', Ex B B' → EpK Pf trs σ B' L) : EpK Pf ((ta, tb) :: trs) σ B ((k, d) :: L) := fun H e Q q =>
  hk H e _ fun H1 e1 => hv H1 (e.ax e1) _ fun v B2 H2 t2 r2 => hr B2 t2.bas H2 t2.sub _ fun kvs B3 H3 t3 r3 => q ((k, v) :: kvs) B3 H3 (((Tr.step e e1).trans t2).trans t3) (.cons (R.mono t3.bas d r2) r3)
theorem eg_disp {trs : List (TE × TE)} {L : List (L2.Key × PyData)} (h : EpK Pf trs σ B L) (hl : L.length ≤ 15) : Eg Pf (tDisp trs) σ B (rK (mergeD [] L)) := fun H e Q q => fun p hp => by
  have n := e.ne hp
  have s1 : Tr Pf B H B (upd H p (.dK [])) := .side e hp
  refine h (upd H p (.dK [])) s1.sub _ fun kvs B2 H2 t2 r2 => ?_
  obtain ⟨b2, h2⟩ := t2.held n (e.fresh hp) upd_same (fun xs z => nomatch z)
  refine ⟨h2, kvs, rfl, by rw [r2.length]; exact hl, ?_⟩
  have t3 := ((s1.trans t2).mutn (o := .dK (mergeK [] kvs)) hp n b2).take hp upd_same b2 n
  exact q _ _ _ t3 ⟨p, _, rfl, upd_same, (kvs_merge r2 .nil).mono (Ex.new b2)⟩
def rDictPK (K : PySem.W.Frag) : List V → Hp → VK → Prop := fun xs H Q => ∃ (a : Addr) (ps : List Addr) (kvs : List (L2.Key × V)), xs = [.ref a] ∧ SqL K H a (ps.map V.ref) ∧ Paired (fun p kv => SqT K H p [kV kv.1, kv.2]) ps kvs ∧
    ∀ p, H p = none → Q (.ref p) (upd H p (.dK (mergeK [] kvs)))
/-- dict([(int, d), ..]) -/
theorem eg_dictPK {L : List (Int × PyData)} (h : Ed Pf te σ B (.list (L.map fun p => .tuple [.int p.1, p.2]))) : Eg Pf (tCB (rDictPK K) (tCons te tNil)) σ B (rK (mergeD [] (L.map fun p => ((Sum.inl p.1 : L2.Key), p.2)))) := eg_cb1 h fun v B1 H1 _ e1 r1 Q q => by
  obtain ⟨a, xs, rfl, h1, h2⟩ := R.lst_inv r1
  have go : ∀ {L : List (Int × PyData)} {xs : List V}, Rs B1 xs (L.map fun p => .tuple [.int p.1, p.2]) → ∃ (ps : List Addr) (kvs : List (L2.Key × V)), xs = ps.map V.ref ∧ Paired (fun p kv => SqT K H1 p [kV kv.1, kv.2]) ps kvs ∧ Kvs B1 kvs (L.map fun p => ((Sum.inl p.1 : L2.Key), p.2)) := by
    intro L
    induction L with
    | nil =>
      intro xs h
      cases h
      exact ⟨[], [], rfl, .nil, .nil⟩
    | cons y L ih =>
      intro xs h
      cases h with
      | cons ra h =>
        obtain ⟨M, kvs, e, hM, hk⟩ := ih h
        obtain ⟨p, ys, rfl, g1, g2⟩ := R.tup_inv ra
        cases g2 with
        | cons r1 g2 =>
          cases g2 with
          | cons r2 g2 =>
            cases g2
            cases r1
            exact ⟨p :: M, (Sum.inl y.1, _) :: kvs, by rw [e]; rfl, .cons (SqT.of (e1.at g1)) hM, .cons r2 hk⟩
  obtain ⟨M, kvs, rfl, hM, hk⟩ := go h2
  exact ⟨a, M, kvs, rfl, SqL.of (e1.at h1), hM, fun p hp => q _ _ _ (.new e1 hp) ⟨p, _, rfl, upd_same, (kvs_merge hk .nil).mono (Ex.new (e1.fresh hp))⟩⟩
end
end K18

set_option Elab.async false
set_option linter.all false
set_option maxRecDepth 100000
set_option maxHeartbeats 2000000
/-! How things are told as data; that telling is one to one; that it is shaped. -/
namespace K18
open PySem L2
def Inj {α : Type} [DecidableEq α] (f : α → PyData) : Prop := ∀ a b, PyData.eqv (f a) (f b) = decide (a = b)
def Shp (k : Nat) (d : PyData) : Prop := d.canLay0 = true ∧ d.depth ≤ k
theorem shp_int {k : Nat} (i : Int) : Shp k (.int i) := ⟨by simp [PyData.canLay0], by simp [PyData.depth]⟩
theorem shp_none {k : Nat} : Shp k .none := ⟨by simp [PyData.canLay0], by simp [PyData.depth]⟩
theorem shp_all {k : Nat} : ∀ {xs : List PyData}, (∀ x ∈ xs, Shp k x) → PyData.canLayAll0 xs = true ∧ PyData.depthAll xs ≤ k
  | [], _ => ⟨by simp [PyData.canLayAll0], by simp [PyData.depthAll]⟩
  | x :: xs, h => by
    obtain ⟨a, b⟩ := shp_all fun y hy => h y (List.mem_cons_of_mem _ hy)
    obtain ⟨c, d⟩ := h x List.mem_cons_self
    refine ⟨by simp [PyData.canLayAll0, a, c], ?_⟩
    rw [PyData.depthAll]
    omega
theorem shp_list {k : Nat} {xs : List PyData} (h : ∀ x ∈ xs, Shp k x) : Shp (k + 1) (.list xs) := by
  obtain ⟨a, b⟩ := shp_all h
  refine ⟨by simp [PyData.canLay0, a], ?_⟩
  rw [PyData.depth]
  omega
theorem shp_tup {k : Nat} {xs : List PyData} (h : ∀ x ∈ xs, Shp k x) : Shp (k + 1) (.tuple xs) := by
  obtain ⟨a, b⟩ := shp_all h
  refine ⟨by simp [PyData.canLay0, a], ?_⟩
  rw [PyData.depth]
  omega
theorem Shp.ok {k : Nat} {d : PyData} (h : Shp k d) (hk : k ≤ 64) : SeqAt.shaped d = true := by
  obtain ⟨a, b⟩ := h
  unfold SeqAt.shaped
  rw [a, Bool.true_and]
  exact decide_eq_true (Nat.le_trans b hk)
theorem shp_node (p : Int × Int) : Shp 1 (nodeD p) := shp_tup fun x hx => by
  rcases List.mem_cons.mp hx with e | hx
  · rw [e]; exact shp_int _
  · rcases List.mem_cons.mp hx with e | hx
    · rw [e]; exact shp_int _
    · exact absurd hx List.not_mem_nil
theorem shp_map {α : Type} {k : Nat} {f : α → PyData} (h : ∀ a, Shp k (f a)) (l : List α) : Shp (k + 1) (.list (l.map f)) := shp_list fun x hx => by
  obtain ⟨a, _, rfl⟩ := List.mem_map.mp hx
  exact h a
theorem inj_int : Inj PyData.int := fun a b => by
  simp only [PyData.eqv]
  by_cases h : a = b
  · simp [h]
  · simp [h]
theorem inj_pair {α β : Type} [DecidableEq α] [DecidableEq β] {f : α → PyData} {g : β → PyData} (hf : Inj f) (hg : Inj g) : Inj fun p : α × β => .tuple [f p.1, g p.2] := fun a b => by
  simp only [PyData.eqv, PyData.eqvAll, hf a.1 b.1, hg a.2 b.2, Bool.and_true]
  rw [Bool.eq_iff_iff]
  simp [Prod.ext_iff]
theorem inj_node : Inj nodeD := inj_pair inj_int inj_int
theorem inj_list {α : Type} [DecidableEq α] {f : α → PyData} (hf : Inj f) : Inj fun l : List α => .list (l.map f) := fun a b => by
  simp only [PyData.eqv]
  induction a generalizing b with
  | nil =>
    cases b with
    | nil => simp [PyData.eqvAll]
    | cons y b => simp [PyData.eqvAll]
  | cons x a ih =>
    cases b with
    | nil => simp [PyData.eqvAll]
    | cons y b =>
      simp only [List.map_cons, PyData.eqvAll, hf x y, ih b]
      rw [Bool.eq_iff_iff]
      simp
def optD : Option (Int × Int) → PyData
  | none => .none
  | some p => nodeD p
theorem shp_opt (o : Option (Int × Int)) : Shp 1 (optD o) := by
  cases o with
  | none => exact shp_none
  | some p => exact shp_node p
theorem inj_opt : Inj optD := fun a b => by
  cases a with
  | none =>
    cases b with
    | none => simp [optD, PyData.eqv]
    | some q => simp [optD, PyData.eqv]
  | some p =>
    cases b with
    | none => simp [optD, PyData.eqv]
    | some q =>
      show PyData.eqv (nodeD p) (nodeD q) = _
      rw [inj_node]
      simp
theorem any_inj {α : Type} [DecidableEq α] {f : α → PyData} (hf : Inj f) (l : List α) (x : α) : ((l.map f).any fun z => PyData.eqv z (f x)) = decide (x ∈ l) := by
  rw [Bool.eq_iff_iff]
  simp only [List.any_map, List.any_eq_true, Function.comp_apply, hf _ x, decide_eq_true_eq]
  exact ⟨fun ⟨y, h1, h2⟩ => h2 ▸ h1, fun h => ⟨x, h, rfl⟩⟩
theorem filter_map_inj {α : Type} {f : α → PyData} {t : PyData → Bool} {u : α → Bool} {m : PyData → PyData} {g : α → PyData} {l : List α} (ht : ∀ a ∈ l, t (f a) = u a) (hm : ∀ a ∈ l, u a = true → m (f a) = g a) : ((l.map f).filter t).map m = (l.filter u).map g := by
  induction l with
  | nil => rfl
  | cons a l ih =>
    have h := ih (fun b hb => ht b (List.mem_cons_of_mem _ hb)) (fun b hb => hm b (List.mem_cons_of_mem _ hb))
    rw [List.map_cons]
    have e := ht a List.mem_cons_self
    cases hu : u a with
    | true =>
      rw [hu] at e
      rw [List.filter_cons_of_pos e, List.filter_cons_of_pos hu, List.map_cons, List.map_cons, h, hm a List.mem_cons_self hu]
    | false =>
      rw [hu] at e
      rw [List.filter_cons_of_neg (by rw [e]; decide), List.filter_cons_of_neg (by rw [hu]; decide), h]
/-- keys, each once, in the order of coming -/
def addN {α : Type} [DecidableEq α] (acc : List α) (n : α) : List α := if n ∈ acc then acc else acc ++ [n]
def keysN {α : Type} [DecidableEq α] (ns : List α) : List α := ns.foldl addN []
theorem atD_some {κ : Type} [DecidableEq κ] (m : List (κ × PyData)) (k : κ) : (atD m k).isSome = decide (k ∈ m.map (·.1)) := by
  induction m with
  | nil => simp [atD]
  | cons p m ih =>
    by_cases e : p.1 = k
    · rw [atD_pos e]
      simp [e]
    · rw [atD_neg e, ih]
      have : ¬ k = p.1 := fun z => e z.symm
      simp [this]
theorem putD_keys {κ : Type} [DecidableEq κ] (m : List (κ × PyData)) (k : κ) (d : PyData) : (putD m k d).map (·.1) = addN (m.map (·.1)) k := by
  unfold putD addN
  rw [atD_some]
  by_cases h : k ∈ m.map (·.1)
  · rw [if_pos (decide_eq_true h), if_pos h, List.map_map]
    apply List.map_congr_left
    intro p _
    show (if p.1 = k then (p.1, d) else p).1 = p.1
    split <;> rfl
  · rw [if_neg (by rw [decide_eq_false h]; decide), if_neg h, List.map_append]
    rfl
theorem mergeD_keys {κ : Type} [DecidableEq κ] : ∀ (more m : List (κ × PyData)), (mergeD m more).map (·.1) = (more.map (·.1)).foldl addN (m.map (·.1))
  | [], m => rfl
  | p :: r, m => by
    show (mergeD (putD m p.1 p.2) r).map (·.1) = _
    rw [mergeD_keys r, putD_keys]
    rfl
theorem pkey_inj {p q : Int × Int} : pkey p = pkey q ↔ p = q := by
  unfold pkey
  constructor
  · intro h
    have h1 := (List.cons.inj h).1
    have h2 := (List.cons.inj (List.cons.inj h).2).1
    exact Prod.ext (Sum.inl.inj h1) (Sum.inl.inj h2)
  · intro h
    rw [h]
theorem addN_map {α β : Type} [DecidableEq α] [DecidableEq β] {f : α → β} (hf : ∀ a b, f a = f b ↔ a = b) (l : List α) (n : α) : addN (l.map f) (f n) = (addN l n).map f := by
  unfold addN
  have : f n ∈ l.map f ↔ n ∈ l := by
    constructor
    · intro h
      obtain ⟨a, h1, h2⟩ := List.mem_map.mp h
      rw [← (hf a n).mp h2]
      exact h1
    · exact fun h => List.mem_map.mpr ⟨n, h, rfl⟩
  by_cases h : n ∈ l
  · rw [if_pos h, if_pos (this.mpr h)]
  · rw [if_neg h, if_neg fun z => h (this.mp z), List.map_append]
    rfl
theorem foldN_map {α β : Type} [DecidableEq α] [DecidableEq β] {f : α → β} (hf : ∀ a b, f a = f b ↔ a = b) : ∀ (ns l : List α), (ns.map f).foldl addN (l.map f) = (ns.foldl addN l).map f
  | [], l => rfl
  | n :: ns, l => by
    show (ns.map f).foldl addN (addN (l.map f) (f n)) = _
    rw [addN_map hf]
    exact foldN_map hf ns _
theorem keysN_pkey (ns : List (Int × Int)) (c : PyData) : (mergeD [] ((ns.map fun n => (n, c)).map fun p => (pkey p.1, p.2))).map (·.1) = (keysN ns).map pkey := by
  rw [mergeD_keys, List.map_map, List.map_map]
  have e : (ns.map (((fun x => x.1) ∘ fun p : (Int × Int) × PyData => (pkey p.1, p.2)) ∘ fun n => (n, c))) = ns.map pkey := rfl
  rw [e]
  exact foldN_map (fun a b => pkey_inj) ns []
end K18

set_option Elab.async false
set_option linter.all false
set_option maxRecDepth 100000
set_option maxHeartbeats 2000000
/-! Grid. -/
namespace K18
open PySem L2
def gF (w h : Int) (e : Bool) : List (Str × V) := [("wide", .int w), ("high", .int h), ("round_ends", .bl e)]
theorem gF2 (w h : Int) : putF "high" (V.int h) (putF "wide" (V.int w) []) = ([("wide", V.int w), ("high", V.int h)] : List (Str × V)) := by
  show (if ("wide" : Str) = "high" then [(("wide" : Str), V.int h)] else (("wide" : Str), V.int w) :: putF "high" (V.int h) []) = _
  rw [if_neg (by decide +kernel)]
  rfl
theorem gF_eq (w h : Int) (e : Bool) : putF "round_ends" (.bl e) (putF "high" (.int h) (putF "wide" (.int w) [])) = gF w h e := by
  have k2 : ¬ (("wide" : Str) = "round_ends") := by decide +kernel
  have k3 : ¬ (("high" : Str) = "round_ends") := by decide +kernel
  rw [gF2]
  show (if ("wide" : Str) = "round_ends" then _ else (("wide" : Str), V.int w) :: (if ("high" : Str) = "round_ends" then _ else (("high" : Str), V.int h) :: putF "round_ends" (V.bl e) [])) = _
  rw [if_neg k2, if_neg k3]
  rfl
theorem gF_wide (w h : Int) (e : Bool) : (gF w h e).lookup ("wide" : Str) = some (V.int w) := by
  rw [← gF_eq, lookup_putF, if_neg (by decide +kernel), lookup_putF, if_neg (by decide +kernel), lookup_putF, if_pos rfl]
theorem gF_high (w h : Int) (e : Bool) : (gF w h e).lookup ("high" : Str) = some (V.int h) := by
  rw [← gF_eq, lookup_putF, if_neg (by decide +kernel), lookup_putF, if_pos rfl]
theorem gF_ends (w h : Int) (e : Bool) : (gF w h e).lookup ("round_ends" : Str) = some (V.bl e) := by
  rw [← gF_eq, lookup_putF, if_pos rfl]
theorem gF_no (w h : Int) (e : Bool) {m : Str} (h1 : ¬ m = "round_ends") (h2 : ¬ m = "high") (h3 : ¬ m = "wide") : (gF w h e).lookup m = none := by
  rw [← gF_eq, lookup_putF, if_neg h1, lookup_putF, if_neg h2, lookup_putF, if_neg h3]
  rfl
/-- a grid stands in the base -/
def GB (C : Addr) (B : Hp) (p : Addr) (w h : Nat) (e : Bool) : Prop := ∃ dx, B p = some (.ins C dx (gF w h e))
theorem GB.mono {C : Addr} {B B' : Hp} {p : Addr} {w h : Nat} {e : Bool} (x : Ex B B') (g : GB C B p w h e) : GB C B' p w h e := let ⟨dx, q⟩ := g; ⟨dx, x _ _ q⟩
/-- built-in names -/
structure BI (mg : Str → Option Value) : Prop where
  range : mg "range" = none
  tuple : mg "tuple" = none
  list : mg "list" = none
  sorted : mg "sorted" = none
  dict : mg "dict" = none
  abs : mg "abs" = none
  min : mg "min" = none
  max : mg "max" = none
  len : mg "len" = none
  sum : mg "sum" = none
  zip : mg "zip" = none
  int : mg "int" = none
  rev : mg "reversed" = none
/-- the class Grid, the error -/
structure GT (K : PySem.W.Frag) (C : Addr) : Prop where
  cl : Cls K C
  nW : NoAttr K C "wide"
  nH : NoAttr K C "high"
  nE : NoAttr K C "round_ends"
structure ET (K : PySem.W.Frag) (mg : Str → Option Value) (CE : Addr) : Prop where
  gE : mg "BadSize" = some (.ref CE)
  xE : PySem.W.excIn K CE [.type "ValueError", .type "Exception", .type "BaseException", .type "object"] "ValueError.__new__" = true
  kE : PySem.W.keepIn K (.ref CE) = true
  bE : PySem.W.subIn K (.ref CE) (.type "BaseException") = some true
  tE : PySem.W.typeIn K (.ref CE) = some (.type "type")
section
variable {Pf : Addr} {P : Program} {w : World} {K : PySem.W.Frag} {mg : Str → Option Value} {base : Heap}
theorem scGI : FnScope ["self", "wide", "high", "round_ends"] ["self", "wide", "high", "round_ends"] (defScope sGInit) := ⟨rfl, rfl, rfl, by decide +kernel, rfl, by decide +kernel, by decide +kernel⟩
def spGI (C CE : Addr) : Sp := fun vs H Q E => ∃ (p dx : Addr) (w h : Int) (e : Bool), vs = [.ref p, .int w, .int h, .bl e] ∧ H p = some (.ins C dx []) ∧ ((w < 1 ∨ h < 1) → E (.ref CE) none H) ∧ (¬ (w < 1 ∨ h < 1) → Q .non (upd H p (.ins C dx (gF w h e))))
theorem ok_ginit {C CE : Addr} {f : Addr} {fd : FuncData} (F : Fun K "__init__" "Grid.__init__" sGInit f fd) (G : GT K C) (T : ET K mg CE) : FnOk P w K mg base (L2.CX P w) 1 f fd ["self", "wide", "high", "round_ends"] (spGI C CE) := by
  refine F.okX scGI (fun vs H Q E h => ?_) (fun cdv A outer s H vs Q E hr h => ?_)
  · obtain ⟨p, dx, x, y, e, rfl, _⟩ := h
    rfl
  · obtain ⟨p, dx, x, y, e, rfl, hp, kE, kQ⟩ := h
    refine ⟨_, pss_cons (ps_if ((pw_or (pt_cmpR op_lt (pv 1) pe_int (nomark _)) (pw_or1 (pt_cmpR op_lt (pv 2) pe_int (nomark _)))).pt)
        (pss_one (ps_raise rfl (takes_of rfl rfl rfl rfl) (pmk_own PySem.F.excBase_ValueError T.xE T.gE T.kE (raises_own T.bE T.tE) rfl))) pss_nil)
      (PSs.nox (pss_cons (ps_fld (pv 0) (pv 1) rfl) (pss_cons (ps_fld (pv 0) (pv 2) rfl) (pss_one (ps_fld (pv 0) (pv 3) rfl))))), ?_⟩
    refine ⟨_, rfl, _, _, rfl, rfl, _, rfl, ?_⟩
    refine ite2 (fun c1 => ?_) (fun c1 => ?_)
    · exact kE (.inl (of_decide_eq_true c1))
    · refine ⟨_, rfl, _, _, rfl, rfl, _, rfl, ?_⟩
      refine ite2 (fun c2 => ?_) (fun c2 => ?_)
      · exact kE (.inr (of_decide_eq_true c2))
      · refine ⟨_, rfl, _, rfl, p, C, dx, [], rfl, hp, G.cl, G.nW, (by show 0 < 1000; decide), _, rfl, _, rfl, p, C, dx, _, rfl, upd_same, G.cl, G.nH, (by show 1 < 1000; decide), _, rfl, _, rfl, p, C, dx, _, rfl, upd_same, G.cl, G.nE, (by rw [gF2]; show 2 < 1000; decide), ?_⟩
        have z := kQ fun z => z.elim (fun z => c1 (decide_eq_true z)) (fun z => c2 (decide_eq_true z))
        rw [← gF_eq] at z
        rw [upd_upd, upd_upd]
        exact z
/-! ### nodes -/
def gnodes (w h : Nat) : List (Int × Int) := (List.range h).flatMap fun (r : Nat) => (List.range w).map fun (c : Nat) => ((c : Int), (r : Int))
theorem gnodes_eq (w h : Nat) : (rgD 0 h).flatMap (fun d => (rgD 0 w).map fun e => PyData.tuple [e, d]) = (gnodes w h).map nodeD := by
  unfold gnodes rgD
  rw [List.flatMap_map, List.map_flatMap]
  congr 1
  funext r
  rw [List.map_map, List.map_map]
  apply List.map_congr_left
  intro c _
  show PyData.tuple [.int (0 + (c : Int)), .int (0 + (r : Int))] = PyData.tuple [.int (c : Int), .int (r : Int)]
  rw [Int.zero_add, Int.zero_add]
theorem gnodes_len (w h : Nat) : (gnodes w h).length = h * w := by
  unfold gnodes
  rw [List.length_flatMap]
  simp only [List.length_map, List.length_range]
  induction h with
  | zero => simp
  | succ h ih => rw [List.range_succ, List.map_append, List.sum_append, ih, Nat.succ_mul]; simp
def Sml (w h : Nat) : Prop := 1 ≤ w ∧ w ≤ 4 ∧ 1 ≤ h ∧ h ≤ 4
theorem scGN : FnScope ["self", "row", "column"] ["self"] (defScope sGNodes) := ⟨rfl, rfl, rfl, by decide +kernel, rfl, by decide +kernel, by decide +kernel⟩
def preGN (C : Addr) : List V → Hp → Rl → Prop := fun vs B r => ∃ (p : Addr) (w h : Nat) (e : Bool), vs = [.ref p] ∧ GB C B p w h e ∧ Sml w h ∧ r = rD (.tuple ((gnodes w h).map nodeD))
theorem ok_gnodes {C f : Addr} {fd : FuncData} (F : Fun K "nodes" "Grid.nodes" sGNodes f fd) (G : GT K C) (b : BI mg) : FnOk P w K mg base CX0 1 f fd ["self"] (Pr Pf (preGN C)) := by
  refine F.ok scGN (fun vs H Q E h => ?_) (fun cdv A outer s H vs Q E hr h => ?_)
  · obtain ⟨B, r, e, ⟨p, w, h, e, rfl, _⟩, _⟩ := h
    rfl
  · obtain ⟨B, r, eb, ⟨p, w, h, e, rfl, ⟨dx, hp⟩, ⟨w1, w4, h1, h4⟩, rfl⟩, k⟩ := h
    refine ⟨_, pss_one (ps_ret (pe_callTy call_tuple_of (by rfl) b.tuple PyProof.Rows.boot_tuple (pa_cons
      (pe_lc2 (own := [("row", 1), ("column", 2)]) (vs1 := [2]) (g := gName 1) (g1 := gName 2) (tt := tYes) (tt1 := tYes) (wi1 := iRng1 (tCons (tFld K (tVar 0) "wide") tNil)) rfl scGN.nd (pi_range1 (by rfl) b.range (pa_cons (pe_fld (pv 0) rfl) pa_nil)) (blkOk_by (N := ["self", "row", "column"]) (sc := defScope sGNodes) (by decide +kernel)) (by decide)
        (fun _ _ _ _ _ => pg_name (i := 1) scGN.nd rfl (Or.inl rfl)) (fun _ _ _ _ _ => pts_nil)
        (fun _ _ _ _ _ => pi_range1 (by rfl) b.range (pa_cons (pe_fld (pv 0) rfl) pa_nil))
        (fun _ _ _ _ _ => pg_name (i := 2) scGN.nd rfl (Or.inl rfl)) (fun _ _ _ _ _ => pts_nil)
        (fun _ _ _ _ _ => pe_tup (pa_cons (pv 2) (pa_cons (pv 1) pa_nil)))) pa_nil))), ?_⟩
    have key : ∀ σ : L2.St, σ = [some (.ref p), none, none] → Ed Pf (tLc2 (iRng1 (tCons (tFld K (tVar 0) "high") tNil)) (gName 1) tYes (iRng1 (tCons (tFld K (tVar 0) "wide") tNil)) (gName 2) tYes (tTup (tCons (tVar 2) (tCons (tVar 1) tNil))) [1, 2] [2]) σ B (.list ((gnodes w h).map nodeD)) := by
      rintro σ rfl
      rw [← gnodes_eq]
      refine ed_lc2 (fun _ => rgD 0 w) (fun d e => .tuple [e, d]) (itd_range1 (ev_fld (ev_var rfl) hp G.cl G.nH (gF_high _ _ _)) (by omega)) ?_ (fun x => rfl) (fun x y => rfl)
        (fun d hd x B1 e1 rx => itd_range1 (ev_fld (ev_var rfl) (e1 _ _ hp) G.cl G.nW (gF_wide _ _ _)) (by omega)) (fun d hd e he x y B1 e1 rx ry => ?_)
      · rw [List.length_flatMap]
        have z : ((rgD 0 h).map fun _ => (rgD 0 w).length).sum = h * w := by
          rw [rgD_len]
          have l := rgD_len 0 h
          revert l
          generalize rgD 0 h = ds
          intro l
          rw [← l]
          clear l
          induction ds with
          | nil => simp
          | cons d ds ih => rw [List.map_cons, List.sum_cons, ih, List.length_cons, Nat.succ_mul, Nat.add_comm]
        rw [z]
        exact Nat.le_trans (Nat.mul_le_mul h4 w4) (by decide)
      · exact ed_tup (ds := [e, d]) (ea_cons mono_D (eg_var rfl ry) fun B2 e2 => ea_cons mono_D (eg_var rfl (R.mono e2 d rx)) fun _ _ => ea_nil) (by show 2 ≤ 100000; decide)
    exact ed_tupOf (key _ rfl) H eb _ k
end
end K18

set_option Elab.async false
set_option linter.all false
set_option maxRecDepth 100000
set_option maxHeartbeats 2000000
/-! Grid.step, near. -/
namespace K18
open PySem L2
section
variable {Pf : Addr} {P : Program} {w : World} {K : PySem.W.Frag} {mg : Str → Option Value} {base : Heap}
theorem ev_chain {σ : L2.St} {B : Hp} {ta tb tc : TE} {x y z : Int} {g g' : Int → Int → V} {b b' : Bool} (ha : Ev Pf ta σ B (.int x)) (hb : Ev Pf tb σ B (.int y)) (hc : Ev Pf tc σ B (.int z)) (h1 : g x y = .bl b) (h2 : g' y z = .bl b') : Ev Pf (tChain (rI0 g) (rI0 g') ta tb tc) σ B (.bl (b && b')) := fun H e Q q =>
  ha H e _ fun H1 e1 => hb H1 (e.ax e1) _ fun H2 e2 => ⟨x, y, rfl, rfl, b, h1, by
    cases b with
    | true => exact iteT (hc H2 ((e.ax e1).ax e2) _ fun H3 e3 => ⟨y, z, rfl, rfl, by rw [h2]; exact q H3 ((e1.trans e2).trans e3)⟩)
    | false => exact iteF (q H2 (e1.trans e2))⟩
theorem q_par {σ : L2.St} {B H : Hp} {D : Ends} {i j : Nat} {x y : V} {ta : TA} {tz : TS} (h : EaA Pf ta σ B [rV x, rV y]) (e : Sb Pf B H) (k : ∀ B' H', Tr Pf B H B' H' → tz D ((σ.set i (some x)).set j (some y)) H') : tSeq (tPar i j ta) tz D σ H := h H e _ fun vs B' H' t hv => by
  match vs, hv with
  | [a, b], ⟨h1, h2, _⟩ =>
    have h1 : a = x := h1
    have h2 : b = y := h2
    subst h1 h2
    exact ⟨a, b, rfl, k B' H' t⟩
def stepG (w h : Nat) (e : Bool) (n d : Int × Int) : Option (Int × Int) :=
  if e then some ((n.1 + d.1) % (w : Int), (n.2 + d.2) % (h : Int))
  else if (decide (0 ≤ n.1 + d.1) && decide (n.1 + d.1 < (w : Int))) && (decide (0 ≤ n.2 + d.2) && decide (n.2 + d.2 < (h : Int))) then some (n.1 + d.1, n.2 + d.2) else none
def ways : List (Str × (Int × Int)) := [("east", (1, 0)), ("west", (0 - 1, 0)), ("south", (0, 1)), ("north", (0, 0 - 1))]
def sidesD : List (L2.Key × PyData) := [(Sum.inr "east", nodeD (1, 0)), (Sum.inr "west", nodeD (0 - 1, 0)), (Sum.inr "south", nodeD (0, 1)), (Sum.inr "north", nodeD (0, 0 - 1))]
theorem at_way {x : Str} {d : Int × Int} (h : (x, d) ∈ ways) : atD (mergeD [] sidesD) (Sum.inr x) = some (nodeD d) := by
  rcases List.mem_cons.mp h with e | h
  · cases e; rfl
  · rcases List.mem_cons.mp h with e | h
    · cases e; rfl
    · rcases List.mem_cons.mp h with e | h
      · cases e; rfl
      · rcases List.mem_cons.mp h with e | h
        · cases e; rfl
        · exact absurd h List.not_mem_nil
theorem scGS : FnScope ["self", "node", "way", "column", "row", "sides"] ["self", "node", "way"] (defScope sGStep) := ⟨rfl, rfl, rfl, by decide +kernel, rfl, by decide +kernel, by decide +kernel⟩
def preGS (C : Addr) : List V → Hp → Rl → Prop := fun vs B r => ∃ (p : Addr) (w h : Nat) (e : Bool) (n d : Int × Int) (y : V) (x : Str), vs = [.ref p, y, .str x] ∧ GB C B p w h e ∧ Sml w h ∧ R B y (nodeD n) ∧ (x, d) ∈ ways ∧ r = rD (optD (stepG w h e n d))
theorem ok_gstep {C f : Addr} {fd : FuncData} (F : Fun K "step" "Grid.step" sGStep f fd) (G : GT K C) (b : BI mg) : FnOk P w K mg base CX0 1 f fd ["self", "node", "way"] (Pr Pf (preGS C)) := by
  refine F.ok scGS (fun vs H Q E h => ?_) (fun cdv A outer s H vs Q E hr h => ?_)
  · obtain ⟨B, r, e, ⟨p, w, h, e, n, d, y, x, rfl, _⟩, _⟩ := h
    rfl
  · obtain ⟨B, r, eb, ⟨p, w, h, e, n, d, y, x, rfl, ⟨dx, hp⟩, ⟨w1, w4, h1, h4⟩, hy, hw, rfl⟩, k⟩ := h
    have hu := hu_of hr
    refine ⟨_, pss_cons (ps_asg (pv 1) (pg_tup rfl (pgs_cons (pg_name (i := 3) scGS.nd rfl (.inl rfl)) (pgs_cons (pg_name (i := 4) scGS.nd rfl (.inl rfl)) pgs_nil))) rfl)
      (pss_cons (ps_set (i := 5) scGS.nd rfl (.inl rfl) (pe_disp (pps_cons pe_str (pe_tup (pa_cons pe_int (pa_cons pe_int pa_nil))) (pps_cons pe_str (pe_tup (pa_cons (pe_op op_sub pe_int pe_int) (pa_cons pe_int pa_nil)))
          (pps_cons pe_str (pe_tup (pa_cons pe_int (pa_cons pe_int pa_nil))) (pps_cons pe_str (pe_tup (pa_cons pe_int (pa_cons (pe_op op_sub pe_int pe_int) pa_nil))) pps_nil)))) (by rfl) (by rfl) (by decide) (by decide)))
      (pss_cons (ps_par (i := 3) (j := 4) rfl scGS.nd rfl rfl (by decide) rfl rfl (pa_cons (pe_op op_add (pv 3) (pe_ix ix_tup (pe_dget hu (pv 5) (pv 2) (fun _ _ => rfl)) pe_int (fun _ _ => rfl)))
          (pa_cons (pe_op op_add (pv 4) (pe_ix ix_tup (pe_dget hu (pv 5) (pv 2) (fun _ _ => rfl)) pe_int (fun _ _ => rfl))) pa_nil)) (by rfl))
      (pss_cons (ps_if (pt_val (pe_fld (pv 0) rfl)) (pss_one (ps_ret (pe_tup (pa_cons (pe_op op_mod (pv 3) (pe_fld (pv 0) rfl)) (pa_cons (pe_op op_mod (pv 4) (pe_fld (pv 0) rfl)) pa_nil))))) pss_nil)
      (pss_one (ps_ret (pe_ifExp ((pw_and (pt_chain op_le op_lt pe_int (pv 3) (pe_fld (pv 0) rfl)) (pw_and1 (pt_chain op_le op_lt pe_int (pv 4) (pe_fld (pv 0) rfl)))).pt) (pe_tup (pa_cons (pv 3) (pa_cons (pv 4) pa_nil))) pe_non)))))), ?_⟩
    obtain ⟨a, xs, rfl, ha, hx⟩ := R.tup_inv hy
    obtain rfl := Rs.of_ints (ns := [n.1, n.2]) hx
    refine ⟨_, rfl, a, _, rfl, SqT.of (eb.at ha), rfl, _, _, rfl, _, _, rfl, rfl, ?_⟩
    refine q_asgG (r := rK (mergeD [] sidesD)) (B := B) (eg_disp (ep_cons (k := Sum.inr "east") ev_c (ed_tup (ds := [.int 1, .int 0]) (ea_cons mono_D (eg_c (.int 1)) fun _ _ => ea_cons mono_D (eg_c (.int 0)) fun _ _ => ea_nil) (by show 2 ≤ 100000; decide)) fun B1 e1 =>
      ep_cons (k := Sum.inr "west") ev_c (ed_tup (ds := [.int (0 - 1), .int 0]) (ea_cons mono_D (ed_int (ev_op ev_c ev_c rv_I0)) fun _ _ => ea_cons mono_D (eg_c (.int 0)) fun _ _ => ea_nil) (by show 2 ≤ 100000; decide)) fun B1 e1 =>
      ep_cons (k := Sum.inr "south") ev_c (ed_tup (ds := [.int 0, .int 1]) (ea_cons mono_D (eg_c (.int 0)) fun _ _ => ea_cons mono_D (eg_c (.int 1)) fun _ _ => ea_nil) (by show 2 ≤ 100000; decide)) fun B1 e1 =>
      ep_cons (k := Sum.inr "north") ev_c (ed_tup (ds := [.int 0, .int (0 - 1)]) (ea_cons mono_D (eg_c (.int 0)) fun _ _ => ea_cons mono_D (ed_int (ev_op ev_c ev_c rv_I0)) fun _ _ => ea_nil) (by show 2 ≤ 100000; decide)) fun B1 e1 => ep_nil) (by show 4 ≤ 15; decide)) eb fun v B1 H1 t1 r1 => ?_
    have gl : ∀ B2, Ex B1 B2 → ∀ {te : TE} {σ : L2.St} {i : Int} {z : Int}, σ[5]? = some (some v) → σ[2]? = some (some (.str x)) → Ev Pf te σ B2 (.int i) → atI [PyData.int d.1, PyData.int d.2] i = some (.int z) → Ev Pf (tOp (rIxT K) (tDGet (tVar 5) (tVar 2)) te) σ B2 (.int z) := fun B2 e2 te σ i z h5 h2 he hz =>
      ev_int (ed_ixT (ed_dgetK (k := Sum.inr x) (eg_var h5 (mono_K _ _ _ e2 r1)) (fun _ _ => ev_var h2) (at_way hw)) (fun B3 e3 => he.mono e3) hz)
    refine q_par (x := .int (n.1 + d.1)) (y := .int (n.2 + d.2)) (B := B1) (ea_cons mono_V (eg_ev (ev_op (ev_var rfl) (gl _ (Ex.refl _) rfl rfl ev_c rfl) rv_I0) rfl) fun B2 e2 => ea_cons mono_V (eg_ev (ev_op (ev_var rfl) (gl _ e2 rfl rfl ev_c rfl) rv_I0) rfl) fun _ _ => ea_nil) t1.sub fun B2 H2 t2 => ?_
    have t12 := t1.trans t2
    have hp2 := t12.bas _ _ hp
    refine q_if (b := e) (B := B2) (et_B (ev_fld (ev_var rfl) hp2 G.cl G.nE (gF_ends _ _ _))) t12.sub (fun he H3 e3 => ?_) (fun he H3 e3 => ?_)
    · subst he
      refine s_retG (r := rD (nodeD ((n.1 + d.1) % (w : Int), (n.2 + d.2) % (h : Int)))) (B := B2) (ed_tup (ds := [.int ((n.1 + d.1) % (w : Int)), .int ((n.2 + d.2) % (h : Int))])
        (ea_cons mono_D (ed_int (ev_op (ev_var rfl) (ev_fld (ev_var rfl) hp2 G.cl G.nW (gF_wide _ _ _)) (rv_I (by show (0 : Int) < (w : Int); omega)))) fun B4 e4 =>
          ea_cons mono_D (ed_int (ev_op (ev_var rfl) (ev_fld (ev_var rfl) (e4 _ _ hp2) G.cl G.nH (gF_high _ _ _)) (rv_I (by show (0 : Int) < (h : Int); omega)))) fun _ _ => ea_nil) (by show 2 ≤ 100000; decide)) (t12.sub.ax e3) fun v B4 H4 t4 r4 => ?_
      exact k v B4 H4 ((t12.trans (.step t12.sub e3)).trans t4) r4
    · subst he
      refine s_retG (r := rD (optD (stepG w h false n d))) (B := B2) ?_ (t12.sub.ax e3) ?_
      rotate_left
      · exact fun v B4 H4 t4 r4 => k v B4 H4 ((t12.trans (.step t12.sub e3)).trans t4) r4
      refine eg_if (b := (decide (0 ≤ n.1 + d.1) && decide (n.1 + d.1 < (w : Int))) && (decide (0 ≤ n.2 + d.2) && decide (n.2 + d.2 < (h : Int))))
        (et_and (et_test (ev_chain ev_c (ev_var rfl) (ev_fld (ev_var rfl) hp2 G.cl G.nW (gF_wide _ _ _)) rfl rfl)) fun _ => (et_test (ev_chain ev_c (ev_var rfl) (ev_fld (ev_var rfl) hp2 G.cl G.nH (gF_high _ _ _)) rfl rfl))) (fun hb => ?_) (fun hb => ?_)
      · have z : stepG w h false n d = some (n.1 + d.1, n.2 + d.2) := by
          unfold stepG
          rw [if_neg Bool.false_ne_true, if_pos hb]
        rw [z]
        exact ed_tup (ds := [.int (n.1 + d.1), .int (n.2 + d.2)]) (ea_cons mono_D (eg_var rfl (.int _)) fun _ _ => ea_cons mono_D (eg_var rfl (.int _)) fun _ _ => ea_nil) (by show 2 ≤ 100000; decide)
      · have z : stepG w h false n d = none := by
          unfold stepG
          rw [if_neg Bool.false_ne_true, if_neg (by rw [hb]; exact Bool.false_ne_true)]
        rw [z]
        exact eg_c .non
end
end K18

set_option Elab.async false
set_option linter.all false
set_option maxRecDepth 100000
set_option maxHeartbeats 2000000
/-! Grid.near. -/
namespace K18
open PySem L2
def isN : PyData → Bool
  | .none => true
  | _ => false
abbrev E00 : XK := fun _ _ _ => False
section
variable {Pf : Addr} {P : Program} {w : World} {K : PySem.W.Frag} {mg : Str → Option Value} {base : Heap}
theorem ev_notN {σ : L2.St} {B : Hp} {te : TE} {d : PyData} (h : Ed Pf te σ B d) : Ev Pf (tNotN te) σ B (.bl (!isN d)) := fun H e Q q => h H e _ fun v B1 H1 t1 r1 => by
  have z : decide (v = V.non) = isN d := by cases r1 <;> simp [isN]
  rw [z]
  exact q H1 t1.act
def wayD (x : PyData) : Int × Int := match x with
  | .str x => if x = "east" then (1, 0) else if x = "west" then (0 - 1, 0) else if x = "south" then (0, 1) else (0, 0 - 1)
  | _ => (0, 0)
theorem wayD_eq : (ways.map fun y => wayD (.str y.1)) = ways.map (·.2) := rfl
def aroundG (w h : Nat) (e : Bool) (n : Int × Int) : List (Int × Int) := ((ways.map fun y => stepG w h e n y.2).filterMap id).filter fun q => !decide (q = n)
def nearG (w h : Nat) (e : Bool) (n : Int × Int) : List (Int × Int) := sortP (keysN (aroundG w h e n))
theorem around_eq (n : Int × Int) : ∀ os : List (Option (Int × Int)), ((os.map optD).filter fun d => !isN d && !PyData.eqv d (nodeD n)).map (fun d => PyData.tuple [d, .int 1]) = ((((os.filterMap id).filter fun q => !decide (q = n)).map fun q => (q, PyData.int 1)).map fun p => PyData.tuple [nodeD p.1, p.2])
  | [] => rfl
  | none :: os => around_eq n os
  | some q :: os => by
    have ih := around_eq n os
    have e1 : (isN (optD (some q))) = false := rfl
    have e2 : PyData.eqv (optD (some q)) (nodeD n) = decide (q = n) := inj_node q n
    rw [List.map_cons]
    by_cases h : q = n
    · rw [List.filter_cons_of_neg (by rw [e1, e2, decide_eq_true h]; decide), ih]
      rw [show (some q :: os).filterMap id = q :: os.filterMap id from rfl, List.filter_cons_of_neg (by rw [decide_eq_true h]; decide)]
    · rw [List.filter_cons_of_pos (by rw [e1, e2, decide_eq_false h]; decide), List.map_cons, ih]
      rw [show (some q :: os).filterMap id = q :: os.filterMap id from rfl, List.filter_cons_of_pos (by rw [decide_eq_false h]; decide)]
      rfl
theorem addN_len {α : Type} [DecidableEq α] (l : List α) (n : α) : (addN l n).length ≤ l.length + 1 := by
  unfold addN
  split
  · omega
  · simp
theorem foldN_len {α : Type} [DecidableEq α] : ∀ (ns l : List α), (ns.foldl addN l).length ≤ l.length + ns.length
  | [], l => Nat.le_refl _
  | n :: ns, l => by
    have h1 := foldN_len ns (addN l n)
    have h2 := addN_len l n
    show (ns.foldl addN (addN l n)).length ≤ l.length + (ns.length + 1)
    omega
theorem near_len (w h : Nat) (e : Bool) (n : Int × Int) : (nearG w h e n).length ≤ 4 := by
  unfold nearG
  rw [(sortP_perm _).length_eq]
  have h1 := foldN_len (aroundG w h e n) []
  have h2 : (aroundG w h e n).length ≤ 4 := Nat.le_trans (List.length_filter_le _ _) (Nat.le_trans (List.length_filterMap_le _ _) (by rw [List.length_map]; decide))
  exact Nat.le_trans h1 (by rw [List.length_nil]; omega)
theorem scGR : FnScope ["self", "node", "found", "way", "one"] ["self", "node"] (defScope sGNear) := ⟨rfl, rfl, rfl, by decide +kernel, rfl, by decide +kernel, by decide +kernel⟩
def preGR (C : Addr) : List V → Hp → Rl → Prop := fun vs B r => ∃ (p : Addr) (w h : Nat) (e : Bool) (n : Int × Int) (y : V), vs = [.ref p, y] ∧ GB C B p w h e ∧ Sml w h ∧ R B y (nodeD n) ∧ r = rD (.tuple ((nearG w h e n).map nodeD))
theorem ok_gnear {C f fS : Addr} {fd fdS : FuncData} (F : Fun K "near" "Grid.near" sGNear f fd) (G : GT K C) (b : BI mg) (mS : Meth K C "step" fS) (FS : FnOk P w K mg base CX0 1 fS fdS ["self", "node", "way"] (Pr Pf (preGS C))) (bS : Binds K fdS ["self", "node", "way"] []) :
    FnOk P w K mg base CX0 2 f fd ["self", "node"] (Pr Pf (preGR C)) := by
  refine F.ok scGR (fun vs H Q E h => ?_) (fun cdv A outer s H vs Q E hr h => ?_)
  · obtain ⟨B, r, e, ⟨p, w, h, e, n, y, rfl, _⟩, _⟩ := h
    rfl
  · obtain ⟨B, r, eb, ⟨p, w, h, e, n, y, rfl, hg, hs, hy, rfl⟩, k⟩ := h
    have hu := hu_of hr
    have hr1 : Room 1 _ := hr
    have hu2 := Nat.lt_of_le_of_lt (Nat.add_le_add_left (by decide : 2 ≤ 64) _) hr.units
    have hu64 := hr.units
    refine ⟨_, pss_cons (ps_setLc (i := 2) (own := [("way", 3)]) (g := gName 3) (tt := tYes) (te := tMeth C "step" (Pr Pf (preGS C)) [] E00 (tVar 0) (tCons (tVar 1) (tCons (tVar 3) tNil))) rfl scGR.nd rfl rfl (sw_true rfl rfl rfl (by decide +kernel))
        (pi_tup (pe_tup (pa_cons pe_str (pa_cons pe_str (pa_cons pe_str (pa_cons pe_str pa_nil)))))) (blkOk_by (N := ["self", "node", "found", "way", "one"]) (sc := defScope sGNear) (by decide +kernel))
        (fun _ _ _ _ _ => pg_name (i := 3) scGR.nd rfl (Or.inl rfl)) (fun _ _ _ _ _ => pts_nil) (fun _ _ _ _ _ => pe_meth (pv 0) G.cl mS FS hr1 bS .nil pass0 (pa_cons (pv 1) (pa_cons (pv 3) pa_nil))))
      (pss_one (ps_ret (pe_callTy call_tuple_of (by rfl) b.tuple PyProof.Rows.boot_tuple (pa_cons (pe_callB (call_sortedT rfl) (by rfl) b.sorted PyProof.Rows.boot_sorted (pa_cons (pe_callTy (call_dictPT rfl hu2) (by rfl) b.dict PyProof.Rows.boot_dict (pa_cons
        (pe_lc (own := [("one", 4)]) (g := gName 4) (tt := tAnd (tB (tNotN (tVar 4))) (tTest (tOp (rNeD K) (tVar 4) (tVar 1)))) rfl scGR.nd (pi_list (pv 2)) (blkOk_by (N := ["self", "node", "found", "way", "one"]) (sc := defScope sGNear) (by decide +kernel))
          (fun _ _ _ _ _ => pg_name (i := 4) scGR.nd rfl (Or.inl rfl)) (fun _ _ _ _ _ => pts_one ((pw_and (pt_cmp (pc_notN (pv 4))) (pw_and1 (pt_cmpR (op_neD hu64) (pv 4) (pv 1) (nomark _)))).pt))
          (fun _ _ _ _ _ => pe_tup (pa_cons (pv 4) (pa_cons pe_int pa_nil)))) pa_nil)) pa_nil)) pa_nil)))), ?_⟩
    have k1 : Ed Pf (tLc (iTup K (tTup (tCons (tC (.str "east")) (tCons (tC (.str "west")) (tCons (tC (.str "south")) (tCons (tC (.str "north")) tNil)))))) (gName 3) tYes (tMeth C "step" (Pr Pf (preGS C)) [] E00 (tVar 0) (tCons (tVar 1) (tCons (tVar 3) tNil))) [3]) [some (.ref p), some y, none, none, none] B (.list ((ways.map fun z => stepG w h e n z.2).map optD)) := by
      have z := ed_lc1 (σ := [some (.ref p), some y, none, none, none]) (j := 3) (vs := [3]) (Pf := Pf) (B := B) (ds := ways.map fun z => PyData.str z.1) (fun d => optD (stepG w h e n (wayD d)))
        (itd_tup (K := K) (tl := tTup (tCons (tC (.str "east")) (tCons (tC (.str "west")) (tCons (tC (.str "south")) (tCons (tC (.str "north")) tNil))))) (ed_tup (ds := [.str "east", .str "west", .str "south", .str "north"]) (ea_cons mono_D (eg_c (.str _)) fun _ _ => ea_cons mono_D (eg_c (.str _)) fun _ _ => ea_cons mono_D (eg_c (.str _)) fun _ _ => ea_cons mono_D (eg_c (.str _)) fun _ _ => ea_nil) (by show 4 ≤ 100000; decide)))
        (by show 4 ≤ 50000; decide) (fun x => rfl) (te := tMeth C "step" (Pr Pf (preGS C)) [] E00 (tVar 0) (tCons (tVar 1) (tCons (tVar 3) tNil))) fun d hd x B1 e1 rx => by
          obtain ⟨z, hz, rfl⟩ := List.mem_map.mp hd
          obtain ⟨dx, hp⟩ := hg.mono e1
          have rx := R.str_inv rx
          subst rx
          have hz' : (z.1, wayD (.str z.1)) ∈ ways := by
            have : ∀ z ∈ ways, (z.1, wayD (.str z.1)) ∈ ways := by decide +kernel
            exact this z hz
          exact eg_meth (rs := [rD (nodeD n), rV (.str z.1)]) (ev_var rfl) hp (gF_no _ _ _ (by decide +kernel) (by decide +kernel) (by decide +kernel))
            (ea_cons mono_D (eg_var rfl (R.mono e1 _ hy)) fun _ _ => ea_cons mono_V (eg_ev (ev_var rfl) rfl) fun _ _ => ea_nil) fun vs B2 e2 hv => by
              match vs, hv with
              | [a, b], ⟨h1, h2, _⟩ =>
                have h2 : b = .str z.1 := h2
                subst h2
                exact ⟨p, w, h, e, n, wayD (.str z.1), a, z.1, rfl, (hg.mono e1).mono e2, hs, h1, hz', rfl⟩
      rw [List.map_map] at z
      rw [List.map_map]
      exact z
    refine q_asgG (B := B) k1 eb fun v B1 H1 t1 r1 => ?_
    refine s_retG (B := B1) (r := rD (.tuple ((nearG w h e n).map nodeD))) ?_ t1.sub fun v2 B2 H2 t2 r2 => k v2 B2 H2 (t1.trans t2) r2
    have hy1 := R.mono t1.bas _ hy
    have k2 := ed_lc (tt := tAnd (tB (tNotN (tVar 4))) (tTest (tOp (rNeD K) (tVar 4) (tVar 1)))) (te := tTup (tCons (tVar 4) (tCons (tC (.int 1)) tNil))) (σ := [some (.ref p), some y, some v, none, none]) (j := 4) (vs := [4]) (Pf := Pf) (B := B1) (fun d => !isN d && !PyData.eqv d (nodeD n)) (fun d => .tuple [d, .int 1])
      (itd_list (K := K) (tl := tVar 2) (eg_var rfl r1)) (by rw [List.length_map, List.length_map]; decide) (fun x => rfl)
      (fun d hd x B3 e3 rx => by
        obtain ⟨o, _, rfl⟩ := List.mem_map.mp hd
        exact et_and (et_B (ev_notN (eg_var rfl rx))) fun _ => et_neD (eg_var rfl rx) (fun B4 e4 => eg_var rfl (R.mono (e3.trans e4) _ hy1)) ((shp_opt o).ok (by decide)) ((shp_node n).ok (by decide)))
      (fun d hd _ x B3 e3 rx => ed_tup (ds := [d, .int 1]) (ea_cons mono_D (eg_var rfl rx) fun _ _ => ea_cons mono_D (eg_c (.int 1)) fun _ _ => ea_nil) (by show 2 ≤ 100000; decide))
    rw [around_eq] at k2
    have k3 := eg_dictPT (K := K) k2
    exact ed_tupOf (ed_sortT k3 (keysN_pkey _ _))
end
end K18

set_option Elab.async false
set_option linter.all false
set_option maxRecDepth 100000
set_option maxHeartbeats 2000000
/-! Grid.links, far. -/
namespace K18
open PySem L2
section
variable {Pf : Addr} {P : Program} {w : World} {K : PySem.W.Frag} {mg : Str → Option Value} {base : Heap}
abbrev linkD (p : (Int × Int) × (Int × Int)) : PyData := .tuple [nodeD p.1, nodeD p.2]
def linksG (w h : Nat) (e : Bool) : List ((Int × Int) × (Int × Int)) := (gnodes w h).flatMap fun n => (nearG w h e n).map fun q => (n, q)
theorem sum_le {α : Type} {f : α → Nat} {c : Nat} (h : ∀ a, f a ≤ c) : ∀ l : List α, (l.map f).sum ≤ l.length * c
  | [] => by simp
  | a :: l => by
    have := sum_le h l
    have := h a
    rw [List.map_cons, List.sum_cons, List.length_cons, Nat.succ_mul]
    omega
theorem scGL : FnScope ["self", "node", "other"] ["self"] (defScope sGLinks) := ⟨rfl, rfl, rfl, by decide +kernel, rfl, by decide +kernel, by decide +kernel⟩
def preGL (C : Addr) : List V → Hp → Rl → Prop := fun vs B r => ∃ (p : Addr) (w h : Nat) (e : Bool), vs = [.ref p] ∧ GB C B p w h e ∧ Sml w h ∧ r = rD (.tuple ((linksG w h e).map linkD))
theorem flat_links (w h : Nat) (e : Bool) (es : PyData → List PyData) (hes : ∀ n, es (nodeD n) = (nearG w h e n).map nodeD) : (((gnodes w h).map nodeD).flatMap fun d => (es d).map fun q => PyData.tuple [d, q]) = (linksG w h e).map linkD := by
  unfold linksG
  rw [List.flatMap_map, List.map_flatMap]
  congr 1
  funext n
  rw [hes, List.map_map, List.map_map]
  rfl
def nodeOf : PyData → Int × Int
  | .tuple [.int a, .int b] => (a, b)
  | _ => (0, 0)
theorem nodeOf_D (n : Int × Int) : nodeOf (nodeD n) = n := rfl
theorem ok_glinks {C f fN fR : Addr} {fd fdN fdR : FuncData} (F : Fun K "links" "Grid.links" sGLinks f fd) (G : GT K C) (b : BI mg) (mN : Meth K C "nodes" fN) (FN : FnOk P w K mg base CX0 1 fN fdN ["self"] (Pr Pf (preGN C))) (bN : Binds K fdN ["self"] [])
    (mR : Meth K C "near" fR) (FR : FnOk P w K mg base CX0 2 fR fdR ["self", "node"] (Pr Pf (preGR C))) (bR : Binds K fdR ["self", "node"] []) :
    FnOk P w K mg base CX0 3 f fd ["self"] (Pr Pf (preGL C)) := by
  refine F.ok scGL (fun vs H Q E h => ?_) (fun cdv A outer s H vs Q E hr h => ?_)
  · obtain ⟨B, r, e, ⟨p, w, h, e, rfl, _⟩, _⟩ := h
    rfl
  · obtain ⟨B, r, eb, ⟨p, w, h, e, rfl, hg, hs, rfl⟩, k⟩ := h
    have hr2 : Room 2 _ := hr
    have hr1 : Room 1 _ := hr2.mono (by decide)
    refine ⟨_, pss_one (ps_ret (pe_callTy call_tuple_of (by rfl) b.tuple PyProof.Rows.boot_tuple (pa_cons
      (pe_lc2 (own := [("node", 1), ("other", 2)]) (vs1 := [2]) (g := gName 1) (g1 := gName 2) (tt := tYes) (tt1 := tYes) (wi1 := iTup K (tMeth C "near" (Pr Pf (preGR C)) [] E00 (tVar 0) (tCons (tVar 1) tNil))) rfl scGL.nd
        (pi_tup (pe_meth0 (E := E00) (pv 0) G.cl mN FN hr1 bN .nil pass0)) (blkOk_by (N := ["self", "node", "other"]) (sc := defScope sGLinks) (by decide +kernel)) (by decide)
        (fun _ _ _ _ _ => pg_name (i := 1) scGL.nd rfl (Or.inl rfl)) (fun _ _ _ _ _ => pts_nil)
        (fun _ _ _ _ _ => pi_tup (pe_meth (pv 0) G.cl mR FR hr2 bR .nil pass0 (pa_cons (pv 1) pa_nil)))
        (fun _ _ _ _ _ => pg_name (i := 2) scGL.nd rfl (Or.inl rfl)) (fun _ _ _ _ _ => pts_nil)
        (fun _ _ _ _ _ => pe_tup (pa_cons (pv 1) (pa_cons (pv 2) pa_nil)))) pa_nil))), ?_⟩
    have no : ∀ {m : Str}, ¬ m = "round_ends" → ¬ m = "high" → ¬ m = "wide" → (gF (w : Int) (h : Int) e).lookup m = none := fun h1 h2 h3 => gF_no _ _ _ h1 h2 h3
    obtain ⟨dx, hp⟩ := id hg
    have k1 := ed_lc2 (j := 1) (k := 2) (vs := [1, 2]) (vs1 := [2]) (Pf := Pf) (B := B) (σ := [some (.ref p), none, none]) (ds := (gnodes w h).map nodeD) (wi := iTup K (tMeth C "nodes" (Pr Pf (preGN C)) [] E00 (tVar 0) tNil)) (wi1 := iTup K (tMeth C "near" (Pr Pf (preGR C)) [] E00 (tVar 0) (tCons (tVar 1) tNil)))
      (te := tTup (tCons (tVar 1) (tCons (tVar 2) tNil))) (fun d => (nearG w h e (nodeOf d)).map nodeD) (fun d q => .tuple [d, q])
      (itd_tup (K := K) (eg_meth (rs := []) (ev_var rfl) hp (no (by decide +kernel) (by decide +kernel) (by decide +kernel)) ea_nil fun vs B2 e2 hv => by
        match vs, hv with
        | [], _ => exact ⟨p, w, h, e, rfl, hg.mono e2, hs, rfl⟩))
      (by
        rw [List.length_flatMap]
        refine Nat.le_trans (sum_le (c := 4) (fun d => by rw [List.length_map]; exact near_len w h e (nodeOf d)) _) ?_
        rw [List.length_map, gnodes_len]
        obtain ⟨w1, w4, h1, h4⟩ := hs
        have := Nat.mul_le_mul h4 w4
        omega) (fun x => rfl) (fun x y => rfl)
      (fun d hd x B1 e1 rx => by
        obtain ⟨n, _, rfl⟩ := List.mem_map.mp hd
        exact itd_tup (K := K) (eg_meth (rs := [rD (nodeD n)]) (ev_var rfl) (e1 _ _ hp) (no (by decide +kernel) (by decide +kernel) (by decide +kernel)) (ea_cons mono_D (eg_var rfl rx) fun _ _ => ea_nil) fun vs B2 e2 hv => by
          match vs, hv with
          | [a], ⟨h1, _⟩ => exact ⟨p, w, h, e, n, a, rfl, (hg.mono e1).mono e2, hs, h1, rfl⟩))
      (fun d hd q hq x y B1 e1 rx ry => ed_tup (ds := [d, q]) (ea_cons mono_D (eg_var rfl rx) fun B2 e2 => ea_cons mono_D (eg_var rfl (R.mono e2 _ ry)) fun _ _ => ea_nil) (by show 2 ≤ 100000; decide))
    rw [flat_links w h e _ fun n => by rw [nodeOf_D]] at k1
    exact ed_tupOf k1 H eb _ k
def absI (i : Int) : Int := if i < 0 then -i else i
def minI (i j : Int) : Int := if j < i then j else i
def farG (w h : Nat) (e : Bool) (a b : Int × Int) : Int :=
  if e then minI (absI (a.1 - b.1)) ((w : Int) - absI (a.1 - b.1)) + minI (absI (a.2 - b.2)) ((h : Int) - absI (a.2 - b.2)) else absI (a.1 - b.1) + absI (a.2 - b.2)
theorem scGF : FnScope ["self", "one", "other", "across", "down"] ["self", "one", "other"] (defScope sGFar) := ⟨rfl, rfl, rfl, by decide +kernel, rfl, by decide +kernel, by decide +kernel⟩
def preGF (C : Addr) : List V → Hp → Rl → Prop := fun vs B r => ∃ (p : Addr) (w h : Nat) (e : Bool) (a b : Int × Int) (x y : V), vs = [.ref p, x, y] ∧ GB C B p w h e ∧ R B x (nodeD a) ∧ R B y (nodeD b) ∧ r = rV (.int (farG w h e a b))
theorem s_par {σ : L2.St} {B H : Hp} {D : Ends} {i j : Nat} {x y : V} {ta : TA} (h : EaA Pf ta σ B [rV x, rV y]) (e : Sb Pf B H) (k : ∀ B' H', Tr Pf B H B' H' → D.nx ((σ.set i (some x)).set j (some y)) H') : tPar i j ta D σ H := h H e _ fun vs B' H' t hv => by
  match vs, hv with
  | [a, b], ⟨h1, h2, _⟩ =>
    have h1 : a = x := h1
    have h2 : b = y := h2
    subst h1 h2
    exact ⟨a, b, rfl, k B' H' t⟩
theorem ok_gfar {C f : Addr} {fd : FuncData} (F : Fun K "far" "Grid.far" sGFar f fd) (G : GT K C) (b : BI mg) : FnOk P w K mg base CX0 1 f fd ["self", "one", "other"] (Pr Pf (preGF C)) := by
  refine F.ok scGF (fun vs H Q E h => ?_) (fun cdv A outer s H vs Q E hr h => ?_)
  · obtain ⟨B, r, e, ⟨p, w, h, e, a, b, x, y, rfl, _⟩, _⟩ := h
    rfl
  · obtain ⟨B, r, eb, ⟨p, w, h, e, a, c, x, y, rfl, ⟨dx, hp⟩, hx, hy, rfl⟩, k⟩ := h
    refine ⟨_, pss_cons (ps_par (i := 3) (j := 4) rfl scGF.nd rfl rfl (by decide) rfl rfl (pa_cons (pe_callB call_abs (by rfl) b.abs PyProof.Rows.boot_abs (pa_cons (pe_op op_sub (pe_ix ix_tup (pv 1) pe_int (fun _ _ => rfl)) (pe_ix ix_tup (pv 2) pe_int (fun _ _ => rfl))) pa_nil))
        (pa_cons (pe_callB call_abs (by rfl) b.abs PyProof.Rows.boot_abs (pa_cons (pe_op op_sub (pe_ix ix_tup (pv 1) pe_int (fun _ _ => rfl)) (pe_ix ix_tup (pv 2) pe_int (fun _ _ => rfl))) pa_nil)) pa_nil)) (by rfl))
      (pss_cons (ps_if (pt_val (pe_fld (pv 0) rfl)) (pss_one (ps_par (i := 3) (j := 4) rfl scGF.nd rfl rfl (by decide) rfl rfl
          (pa_cons (pe_callB (call_min2 rfl) (by rfl) b.min PyProof.Rows.boot_min (pa_cons (pv 3) (pa_cons (pe_op op_sub (pe_fld (pv 0) rfl) (pv 3)) pa_nil)))
          (pa_cons (pe_callB (call_min2 rfl) (by rfl) b.min PyProof.Rows.boot_min (pa_cons (pv 4) (pa_cons (pe_op op_sub (pe_fld (pv 0) rfl) (pv 4)) pa_nil))) pa_nil)) (by rfl))) pss_nil)
      (pss_one (ps_ret (pe_op op_add (pv 3) (pv 4))))), ?_⟩
    have ix : ∀ {σ : L2.St} {B2 : Hp} {i : Nat} {j z : Int} {v : V} {n : Int × Int}, Ex B B2 → σ[i]? = some (some v) → R B v (nodeD n) → atI [PyData.int n.1, PyData.int n.2] j = some (.int z) → Ev Pf (tOp (rIxT K) (tVar i) (tC (.int j))) σ B2 (.int z) := fun e2 h1 h2 h3 =>
      ev_int (ed_ixT (eg_var h1 (R.mono e2 _ h2)) (fun _ _ => ev_c) h3)
    refine q_par (x := .int (absI (a.1 - c.1))) (y := .int (absI (a.2 - c.2))) (B := B) (ea_cons mono_V (eg_ev (ev_abs (ev_op (ix (Ex.refl _) rfl hx rfl) (ix (Ex.refl _) rfl hy rfl) rv_I0)) rfl) fun B2 e2 => ea_cons mono_V (eg_ev (ev_abs (ev_op (ix e2 rfl hx rfl) (ix e2 rfl hy rfl) rv_I0)) rfl) fun _ _ => ea_nil) eb fun B2 H2 t2 => ?_
    have hp2 := t2.bas _ _ hp
    refine q_if (b := e) (B := B2) (et_B (ev_fld (ev_var rfl) hp2 G.cl G.nE (gF_ends _ _ _))) t2.sub (fun he H3 e3 => ?_) (fun he H3 e3 => ?_)
    · subst he
      refine s_par (x := .int (minI (absI (a.1 - c.1)) ((w : Int) - absI (a.1 - c.1)))) (y := .int (minI (absI (a.2 - c.2)) ((h : Int) - absI (a.2 - c.2)))) (B := B2)
        (ea_cons mono_V (eg_ev (ev_min2 (ev_var rfl) (ev_op (ev_fld (ev_var rfl) hp2 G.cl G.nW (gF_wide _ _ _)) (ev_var rfl) rv_I0)) rfl) fun B4 e4 => ea_cons mono_V (eg_ev (ev_min2 (ev_var rfl) (ev_op (ev_fld (ev_var rfl) (e4 _ _ hp2) G.cl G.nH (gF_high _ _ _)) (ev_var rfl) rv_I0)) rfl) fun _ _ => ea_nil) (t2.sub.ax e3) fun B4 H4 t4 => ?_
      have t5 := (t2.trans (.step t2.sub e3)).trans t4
      exact ev_op (ev_var rfl) (ev_var rfl) rv_I0 H4 t4.sub _ fun H5 e5 => k _ B4 H5 (t5.trans (.step t4.sub e5)) rfl
    · subst he
      exact ev_op (ev_var rfl) (ev_var rfl) rv_I0 H3 (t2.sub.ax e3) _ fun H5 e5 => k _ B2 H5 ((t2.trans (.step t2.sub e3)).trans (.step (t2.sub.ax e3) e5)) rfl
end
end K18

set_option Elab.async false
set_option linter.all false
set_option maxRecDepth 100000
set_option maxHeartbeats 2000000
/-! Cube. -/
namespace K18
open PySem L2
def cF (n : Int) : List (Str × V) := [("ways", .int n)]
theorem cF_ways (n : Int) : (cF n).lookup ("ways" : Str) = some (V.int n) := by
  show (putF "ways" (V.int n) []).lookup ("ways" : Str) = _
  rw [lookup_putF, if_pos rfl]
theorem cF_no (n : Int) {m : Str} (h1 : ¬ m = "ways") : (cF n).lookup m = none := by
  show (putF "ways" (V.int n) []).lookup m = _
  rw [lookup_putF, if_neg h1]
  rfl
def CB (C : Addr) (B : Hp) (p : Addr) (n : Nat) : Prop := ∃ dx, B p = some (.ins C dx (cF n))
theorem CB.mono {C : Addr} {B B' : Hp} {p : Addr} {n : Nat} (x : Ex B B') (g : CB C B p n) : CB C B' p n := let ⟨dx, q⟩ := g; ⟨dx, x _ _ q⟩
structure CT (K : PySem.W.Frag) (C : Addr) : Prop where
  cl : Cls K C
  nW : NoAttr K C "ways"
/-- a def whose code object is at c -/
structure FunC (K : PySem.W.Frag) (x qual : Str) (st : Stmt) (f : Addr) (fd : FuncData) (c : Addr) : Prop where
  ex : ∃ (oc : Value) (od : Option Addr) (kV doc pm : Value) (an : Option Addr) (ct : Value) (osl : Array (Option Value)),
    fd = PySem.W.fnOf x qual (defArgs st) (defBody st) (defScope st) .none kV doc pm an (.ref c) ct ∧ K.lookup f = some ⟨oc, od, .func fd, osl⟩ ∧ PySem.W.codeIn K (.ref c) qual = true
section
variable {Pf : Addr} {P : Program} {w : World} {K : PySem.W.Frag} {mg : Str → Option Value} {base : Heap}
theorem FunC.ok {x qual : Str} {st : Stmt} {f c : Addr} {fd : FuncData} {N ps : List Str} {k : Nat} {sp : Sp} (F : FunC K x qual st f fd c) (S : FnScope N ps (defScope st)) (len : ∀ vs H Q E, sp vs H Q E → vs.length = ps.length)
    (hbody : ∀ (A : Around) (outer : List Env) (s : Shared) (H : Hp) (vs : List V) (Q : VK) (E : XK), Room k (A.deeper (PyProof.Rows.envOfC qual (defScope st) s.heap.objs.size f (.ref c))) → sp vs H Q E →
      ∃ t, PSs (cxOf CX0 P w K mg base N qual (defScope st) f (.ref c) A outer s H E).nox (defBody st) t ∧ t { nx := fun _ H' => Q .non H', rt := Q } (start N vs) H) : FnOk P w K mg base CX0 (k + 1) f fd ps sp := by
  obtain ⟨oc, od, kV, doc, pm, an, ct, osl, rfl, lk, hcd⟩ := F.ex
  refine fn_of lk hcd S len fun A outer s H vs Q E hr hsp => ?_
  obtain ⟨t, h, q⟩ := hbody A outer s H vs Q E hr hsp
  exact ⟨t, h.nox, q⟩
theorem scCI : FnScope ["self", "ways"] ["self", "ways"] (defScope sCInit) := ⟨rfl, rfl, rfl, by decide +kernel, rfl, by decide +kernel, by decide +kernel⟩
def spCI (C CE : Addr) : Sp := fun vs H Q E => ∃ (p dx : Addr) (n : Int), vs = [.ref p, .int n] ∧ H p = some (.ins C dx []) ∧ (n < 1 → E (.ref CE) none H) ∧ (¬ n < 1 → Q .non (upd H p (.ins C dx (cF n))))
theorem ok_cinit {C CE : Addr} {f : Addr} {fd : FuncData} (F : Fun K "__init__" "Cube.__init__" sCInit f fd) (G : CT K C) (T : ET K mg CE) : FnOk P w K mg base (L2.CX P w) 1 f fd ["self", "ways"] (spCI C CE) := by
  refine F.okX scCI (fun vs H Q E h => ?_) (fun cdv A outer s H vs Q E hr h => ?_)
  · obtain ⟨p, dx, x, rfl, _⟩ := h
    rfl
  · obtain ⟨p, dx, x, rfl, hp, kE, kQ⟩ := h
    refine ⟨_, pss_cons (ps_if (pt_cmpR op_lt (pv 1) pe_int (nomark _))
        (pss_one (ps_raise rfl (takes_of rfl rfl rfl rfl) (pmk_own PySem.F.excBase_ValueError T.xE T.gE T.kE (raises_own T.bE T.tE) rfl))) pss_nil)
      (PSs.nox (pss_one (ps_fld (pv 0) (pv 1) rfl))), ?_⟩
    refine ⟨_, rfl, _, _, rfl, rfl, _, rfl, ?_⟩
    refine ite2 (fun c1 => ?_) (fun c1 => ?_)
    · exact kE (of_decide_eq_true c1)
    · exact ⟨_, rfl, _, rfl, p, C, dx, [], rfl, hp, G.cl, G.nW, (by show 0 < 1000; decide), kQ fun z => c1 (decide_eq_true z)⟩
theorem ed_tupRg {σ : L2.St} {B : Hp} {ta : TE} {m : Nat} (h : Ev Pf ta σ B (.int (m : Int))) (hm : m ≤ 100000) : Ed Pf (tTupRg (tRg1 ta)) σ B (.tuple (rgD 0 m)) := fun H e Q q => h H e _ fun H1 e1 => by
  refine ⟨(m : Int), rfl, RgOk.of_le (by decide) (by omega) (by decide) (by omega), fun p hp => ?_⟩
  refine q _ _ _ ((Tr.step e e1).trans (.new (e.ax e1) hp)) (.tup upd_same ?_)
  have z : rgV 0 (m : Int) = ((List.range m).map fun (i : Nat) => (0 + (i : Int))).map V.int := by
    unfold rgV
    rw [List.map_map, Int.sub_zero, Int.toNat_natCast]
    rfl
  have z2 : rgD 0 m = ((List.range m).map fun (i : Nat) => (0 + (i : Int))).map PyData.int := by
    unfold rgD
    rw [List.map_map]
    rfl
  rw [z, z2]
  exact Rs.ints _
theorem ed_lstRg {σ : L2.St} {B : Hp} {ta : TE} {m : Nat} (h : Ev Pf ta σ B (.int (m : Int))) (hm : m ≤ 100000) : Ed Pf (tLstRg (tRg1 ta)) σ B (.list (rgD 0 m)) := fun H e Q q => h H e _ fun H1 e1 => by
  refine ⟨(m : Int), rfl, RgOk.of_le (by decide) (by omega) (by decide) (by omega), fun p hp => ?_⟩
  refine q _ _ _ ((Tr.step e e1).trans (.new (e.ax e1) hp)) (.lst upd_same ?_)
  have z : rgV 0 (m : Int) = ((List.range m).map fun (i : Nat) => (0 + (i : Int))).map V.int := by
    unfold rgV
    rw [List.map_map, Int.sub_zero, Int.toNat_natCast]
    rfl
  have z2 : rgD 0 m = ((List.range m).map fun (i : Nat) => (0 + (i : Int))).map PyData.int := by
    unfold rgD
    rw [List.map_map]
    rfl
  rw [z, z2]
  exact Rs.ints _
theorem scCN : FnScope ["self"] ["self"] (defScope sCNodes) := ⟨rfl, rfl, rfl, by decide +kernel, rfl, by decide +kernel, by decide +kernel⟩
def preCN (C : Addr) : List V → Hp → Rl → Prop := fun vs B r => ∃ (p : Addr) (n : Nat), vs = [.ref p] ∧ CB C B p n ∧ n ≤ 3 ∧ r = rD (.tuple (rgD 0 (2 ^ n)))
theorem pow_le {n : Nat} (h : n ≤ 3) : 2 ^ n ≤ 8 := Nat.pow_le_pow_right (by decide) h
theorem ok_cnodes {C f fP : Addr} {fd fdP : FuncData} (F : Fun K "nodes" "Cube.nodes" sCNodes f fd) (G : CT K C) (b : BI mg) (mP : mg "power_of_two" = some (.ref fP)) (kP : PySem.W.keepIn K (.ref fP) = true) (FP : FnOk P w K mg base CX0 1 fP fdP ["count"] (Pr Pf prePow)) (bP : Binds K fdP ["count"] []) :
    FnOk P w K mg base CX0 2 f fd ["self"] (Pr Pf (preCN C)) := by
  refine F.ok scCN (fun vs H Q E h => ?_) (fun cdv A outer s H vs Q E hr h => ?_)
  · obtain ⟨B, r, e, ⟨p, n, rfl, _⟩, _⟩ := h
    rfl
  · obtain ⟨B, r, eb, ⟨p, n, rfl, ⟨dx, hp⟩, hn, rfl⟩, k⟩ := h
    have hr1 : Room 1 _ := hr
    refine ⟨_, pss_one (ps_ret (pe_tupRg rfl (by rfl) b.tuple (prg_1 (by rfl) b.range (pe_call (E := E00) FP hr1 (by rfl) mP kP bP .nil pass0 (pa_cons (pe_fld (pv 0) rfl) pa_nil))))), ?_⟩
    have k1 := ed_tupRg (Pf := Pf) (B := B) (σ := [some (.ref p)]) (m := 2 ^ n) (ta := tCall (Pr Pf prePow) [] E00 (tCons (tFld K (tVar 0) "ways") tNil)) (ev_eg (eg_call (rs := [rV (.int (n : Int))]) (ea_cons mono_V (eg_ev (ev_fld (ev_var rfl) hp G.cl G.nW (cF_ways _)) rfl) fun _ _ => ea_nil) fun vs B2 e2 hv => by
      match vs, hv with
      | [a], ⟨h1, _⟩ =>
        have h1 : a = .int (n : Int) := h1
        subst h1
        exact ⟨n, rfl, by omega, by rw [show ((2 ^ n : Nat) : Int) = (2 : Int) ^ n from by simp]⟩)) (Nat.le_trans (pow_le hn) (by decide))
    exact k1 H eb _ k
def stepC (n : Nat) (x : Int) (way : Nat) : Int := ofFigs ((figs x n).set way (1 - (figs x n).getD way 0))
theorem scCS : FnScope ["self", "node", "way", "row"] ["self", "node", "way"] (defScope sCStep) := ⟨rfl, rfl, rfl, by decide +kernel, rfl, by decide +kernel, by decide +kernel⟩
def preCS (C : Addr) : List V → Hp → Rl → Prop := fun vs B r => ∃ (p : Addr) (n : Nat) (x : Int) (way : Nat), vs = [.ref p, .int x, .int (way : Int)] ∧ CB C B p n ∧ n ≤ 3 ∧ way < n ∧ r = rV (.int (stepC n x way))
theorem ok_cstep {C f fG fM : Addr} {fd fdG fdM : FuncData} (F : Fun K "step" "Cube.step" sCStep f fd) (G : CT K C) (b : BI mg) (mG : mg "figures" = some (.ref fG)) (kG : PySem.W.keepIn K (.ref fG) = true) (FG : FnOk P w K mg base CX0 1 fG fdG ["number", "count"] (Pr Pf preFig)) (bG : Binds K fdG ["number", "count"] [])
    (mM : mg "from_figures" = some (.ref fM)) (kM : PySem.W.keepIn K (.ref fM) = true) (FM : FnOk P w K mg base CX0 1 fM fdM ["row"] (Pr Pf preFrom)) (bM : Binds K fdM ["row"] []) :
    FnOk P w K mg base CX0 2 f fd ["self", "node", "way"] (Pr Pf (preCS C)) := by
  refine F.ok scCS (fun vs H Q E h => ?_) (fun cdv A outer s H vs Q E hr h => ?_)
  · obtain ⟨B, r, e, ⟨p, n, x, way, rfl, _⟩, _⟩ := h
    rfl
  · obtain ⟨B, r, eb, ⟨p, n, x, way, rfl, ⟨dx, hp⟩, hn, hw, rfl⟩, k⟩ := h
    have hr1 : Room 1 _ := hr
    refine ⟨_, pss_cons (ps_set (i := 3) scCS.nd rfl (.inl rfl) (pe_callTy call_list_of (by rfl) b.list PyProof.Rows.boot_list (pa_cons (pe_call (E := E00) FG hr1 (by rfl) mG kG bG .nil pass0 (pa_cons (pv 1) (pa_cons (pe_fld (pv 0) rfl) pa_nil))) pa_nil)))
      (pss_cons (ps_asg (pe_op op_sub pe_int (pe_ix ix_list (pv 3) (pv 2) (fun _ _ => rfl))) (pg_sub (pv 3) (pv 2) set_list) rfl)
      (pss_one (ps_ret (pe_call (E := E00) FM hr1 (by rfl) mM kM bM .nil pass0 (pa_cons (pv 3) pa_nil))))), ?_⟩
    have k1 : Ed Pf (tCall (Pr Pf preFig) [] E00 (tCons (tVar 1) (tCons (tFld K (tVar 0) "ways") tNil))) [some (.ref p), some (.int x), some (.int (way : Int)), none] B (.tuple ((figs x n).map .int)) :=
      eg_call (rs := [rV (.int x), rV (.int (n : Int))]) (ea_cons mono_V (eg_ev (ev_var rfl) rfl) fun B2 e2 => ea_cons mono_V (eg_ev (ev_fld (ev_var rfl) (e2 _ _ hp) G.cl G.nW (cF_ways _)) rfl) fun _ _ => ea_nil) fun vs B2 e2 hv => by
        match vs, hv with
        | [a, c], ⟨h1, h2, _⟩ =>
          have h1 : a = .int x := h1
          have h2 : c = .int (n : Int) := h2
          subst h1 h2
          exact ⟨x, n, rfl, by omega, rfl⟩
    refine k1 H eb _ fun v B1 H1 t1 r1 => ?_
    obtain ⟨a, xs, rfl, ha, hx⟩ := R.tup_inv r1
    obtain rfl := Rs.of_ints hx
    refine ⟨a, _, rfl, .inr (SqT.of (t1.sub.at ha)), fun l hl => ?_⟩
    have nl := t1.sub.ne hl
    have hlen : ((figs x n).map V.int).length = n := by rw [List.length_map, figs_len]
    have hat : ((figs x n).map V.int)[way]? = some (.int ((figs x n).getD way 0)) := by
      rw [List.getElem?_map, List.getD_eq_getElem?_getD]
      have : way < (figs x n).length := by rw [figs_len]; exact hw
      rw [List.getElem?_eq_getElem this]
      rfl
    refine ⟨_, rfl, _, rfl, l, _, _, _, rfl, rfl, SqL.of upd_same, atI_nat hat, _, _, rfl, rfl, _, rfl, _, rfl, l, _, _, way, rfl, rfl, upd_same, ?_, ?_⟩
    · rw [hlen]
      unfold ixN
      rw [if_pos (by omega), if_pos (by omega), Int.toNat_natCast]
    · rw [upd_upd]
      have ev : ((figs x n).map V.int).set way (.int (1 - (figs x n).getD way 0)) = ((figs x n).set way (1 - (figs x n).getD way 0)).map V.int := List.map_set.symm
      rw [ev]
      have t2 : Tr Pf B H B1 (upd H1 l (.lst (((figs x n).set way (1 - (figs x n).getD way 0)).map V.int))) := t1.trans (.side t1.sub hl)
      have t3 := (Tr.side (o := .lst (((figs x n).set way (1 - (figs x n).getD way 0)).map V.int)) t1.sub hl).take hl upd_same (t1.sub.fresh hl) nl
      refine eg_call (pre := preFrom) (E := E00) (Pf := Pf) (r := rV (.int (stepC n x way))) (rs := [rD (.list (((figs x n).set way (1 - (figs x n).getD way 0)).map .int))]) (ea_cons mono_D (eg_var rfl (.lst upd_same (Rs.ints _))) fun _ _ => ea_nil) (fun vs B2 e2 hv => ?_) _ t3.sub _ fun v B4 H4 t4 r4 => k v B4 H4 ((t1.trans t3).trans t4) r4
      match vs, hv with
      | [a], ⟨h1, _⟩ => exact ⟨a, _, rfl, h1, rfl⟩
def nearC (n : Nat) (x : Int) : List Int := sortZ ((List.range n).map (stepC n x))
theorem scCR : FnScope ["self", "node", "way"] ["self", "node"] (defScope sCNear) := ⟨rfl, rfl, rfl, by decide +kernel, rfl, by decide +kernel, by decide +kernel⟩
def preCR (C : Addr) : List V → Hp → Rl → Prop := fun vs B r => ∃ (p : Addr) (n : Nat) (x : Int), vs = [.ref p, .int x] ∧ CB C B p n ∧ n ≤ 3 ∧ r = rD (.tuple ((nearC n x).map .int))
def natOf : PyData → Nat
  | .int i => i.toNat
  | _ => 0
theorem ok_cnear {C f fS : Addr} {fd fdS : FuncData} (F : Fun K "near" "Cube.near" sCNear f fd) (G : CT K C) (b : BI mg) (mS : Meth K C "step" fS) (FS : FnOk P w K mg base CX0 2 fS fdS ["self", "node", "way"] (Pr Pf (preCS C))) (bS : Binds K fdS ["self", "node", "way"] []) :
    FnOk P w K mg base CX0 3 f fd ["self", "node"] (Pr Pf (preCR C)) := by
  refine F.ok scCR (fun vs H Q E h => ?_) (fun cdv A outer s H vs Q E hr h => ?_)
  · obtain ⟨B, r, e, ⟨p, n, x, rfl, _⟩, _⟩ := h
    rfl
  · obtain ⟨B, r, eb, ⟨p, n, x, rfl, hg, hn, rfl⟩, k⟩ := h
    have hr2 : Room 2 _ := hr
    obtain ⟨dx, hp⟩ := id hg
    refine ⟨_, pss_one (ps_ret (pe_callTy call_tuple_of (by rfl) b.tuple PyProof.Rows.boot_tuple (pa_cons (pe_callB cr_sortedI (by rfl) b.sorted PyProof.Rows.boot_sorted (pa_cons
        (pe_lc (own := [("way", 2)]) (g := gName 2) (tt := tYes) (te := tMeth C "step" (Pr Pf (preCS C)) [] E00 (tVar 0) (tCons (tVar 1) (tCons (tVar 2) tNil))) rfl scCR.nd (pi_range1 (by rfl) b.range (pa_cons (pe_fld (pv 0) rfl) pa_nil)) (blkOk_by (N := ["self", "node", "way"]) (sc := defScope sCNear) (by decide +kernel))
          (fun _ _ _ _ _ => pg_name (i := 2) scCR.nd rfl (Or.inl rfl)) (fun _ _ _ _ _ => pts_nil)
          (fun _ _ _ _ _ => pe_meth (pv 0) G.cl mS FS hr2 bS .nil pass0 (pa_cons (pv 1) (pa_cons (pv 2) pa_nil)))) pa_nil)) pa_nil))), ?_⟩
    have k1 := ed_lc1 (Pf := Pf) (B := B) (σ := [some (.ref p), some (.int x), none]) (j := 2) (vs := [2]) (wi := iRng1 (tCons (tFld K (tVar 0) "ways") tNil)) (te := tMeth C "step" (Pr Pf (preCS C)) [] E00 (tVar 0) (tCons (tVar 1) (tCons (tVar 2) tNil))) (ds := rgD 0 n) (fun d => .int (stepC n x (natOf d)))
      (itd_range1 (ev_fld (ev_var rfl) hp G.cl G.nW (cF_ways _)) (by omega)) (by rw [rgD_len]; omega) (fun x => rfl) fun d hd y B1 e1 ry => by
        obtain ⟨i, hi, rfl⟩ := rgD_mem hd
        have ry := R.int_inv ry
        rw [Int.zero_add] at ry ⊢
        subst ry
        refine ed_int (ev_eg (eg_meth (rs := [rV (.int x), rV (.int (i : Int))]) (ev_var rfl) (e1 _ _ hp) (cF_no _ (by decide +kernel)) (ea_cons mono_V (eg_ev (ev_var rfl) rfl) fun _ _ => ea_cons mono_V (eg_ev (ev_var rfl) rfl) fun _ _ => ea_nil) fun vs B2 e2 hv => ?_))
        match vs, hv with
        | [a, c], ⟨h1, h2, _⟩ =>
          have h1 : a = .int x := h1
          have h2 : c = .int (i : Int) := h2
          subst h1 h2
          exact ⟨p, n, x, i, rfl, (hg.mono e1).mono e2, hn, hi, by show rV (.int (stepC n x (i : Int).toNat)) = _; rw [Int.toNat_natCast]⟩
    have z : (rgD 0 n).map (fun d => PyData.int (stepC n x (natOf d))) = ((List.range n).map (stepC n x)).map .int := by
      unfold rgD
      rw [List.map_map, List.map_map]
      apply List.map_congr_left
      intro i _
      show PyData.int (stepC n x (0 + (i : Int)).toNat) = PyData.int (stepC n x i)
      rw [Int.zero_add, Int.toNat_natCast]
    rw [z] at k1
    exact ed_tupOf (ed_sortI k1) H eb _ k
theorem noFree : ∀ y ∈ ([((".0" : Str), NameKind.local), ("a", .local), ("b", .local)] : List (Str × NameKind)), ¬ y.2 = NameKind.free := by decide +kernel
def farC (n : Nat) (x y : Int) : Int := (cntU (figs x n) (figs y n) : Nat)
theorem scCF : FnScope ["self", "one", "other"] ["self", "one", "other"] (defScope sCFar) := ⟨rfl, rfl, rfl, by decide +kernel, rfl, by decide +kernel, by decide +kernel⟩
def preCF (C : Addr) : List V → Hp → Rl → Prop := fun vs B r => ∃ (p : Addr) (n : Nat) (x y : Int), vs = [.ref p, .int x, .int y] ∧ CB C B p n ∧ n ≤ 3 ∧ r = rV (.int (farC n x y))
theorem ok_cfar {C f fG c : Addr} {fd fdG : FuncData} (F : FunC K "far" "Cube.far" sCFar f fd c) (G : CT K C) (b : BI mg) (TB : GxR.TabB base mg c Pf) (mG : mg "figures" = some (.ref fG)) (kG : PySem.W.keepIn K (.ref fG) = true) (FG : FnOk P w K mg base CX0 1 fG fdG ["number", "count"] (Pr Pf preFig)) (bG : Binds K fdG ["number", "count"] []) :
    FnOk P w K mg base CX0 2 f fd ["self", "one", "other"] (Pr Pf (preCF C)) := by
  refine F.ok scCF (fun vs H Q E h => ?_) (fun A outer s H vs Q E hr h => ?_)
  · obtain ⟨B, r, e, ⟨p, n, x, y, rfl, _⟩, _⟩ := h
    rfl
  · obtain ⟨B, r, eb, ⟨p, n, x, y, rfl, ⟨dx, hp⟩, hn, rfl⟩, k⟩ := h
    have hr1 : Room 1 _ := hr
    refine ⟨_, pss_one (ps_ret (pe_sumZ hr1 (by rfl) b.sum (by rfl) b.zip TB rfl ⟨rfl, rfl, by decide +kernel, rfl, rfl, rfl, by decide +kernel, fun y hy e => absurd e (noFree y hy)⟩
      (pa_cons (pe_call (E := E00) FG hr1 (by rfl) mG kG bG .nil pass0 (pa_cons (pv 1) (pa_cons (pe_fld (pv 0) rfl) pa_nil))) (pa_cons (pe_call (E := E00) FG hr1 (by rfl) mG kG bG .nil pass0 (pa_cons (pv 2) (pa_cons (pe_fld (pv 0) rfl) pa_nil))) pa_nil))
      (by decide +kernel) (by decide +kernel) (fun _ => rfl))), ?_⟩
    have fg : ∀ {B2 : Hp} {i : Nat} {z : Int}, Ex B B2 → ([some (.ref p), some (.int x), some (.int y)] : L2.St)[i]? = some (some (.int z)) → Ed Pf (tCall (Pr Pf preFig) [] E00 (tCons (tVar i) (tCons (tFld K (tVar 0) "ways") tNil))) [some (.ref p), some (.int x), some (.int y)] B2 (.tuple ((figs z n).map .int)) := fun {B2 i z} e hi =>
      eg_call (rs := [rV (.int z), rV (.int (n : Int))]) (ea_cons mono_V (eg_ev (ev_var hi) rfl) fun B3 e3 => ea_cons mono_V (eg_ev (ev_fld (ev_var rfl) ((e.trans e3) _ _ hp) G.cl G.nW (cF_ways _)) rfl) fun _ _ => ea_nil) fun vs B2 e2 hv => by
        match vs, hv with
        | [a, c], ⟨h1, h2, _⟩ =>
          have h1 : a = .int z := h1
          have h2 : c = .int (n : Int) := h2
          subst h1 h2
          exact ⟨z, n, rfl, by omega, rfl⟩
    refine fg (i := 1) (z := x) (Ex.refl _) rfl H eb _ fun v1 B1 H1 t1 r1 => fg (i := 2) (z := y) t1.bas rfl H1 t1.sub _ fun v2 B2 H2 t2 r2 => ?_
    obtain ⟨a1, xs1, rfl, ha1, hx1⟩ := R.tup_inv r1
    obtain ⟨a2, xs2, rfl, ha2, hx2⟩ := R.tup_inv r2
    obtain rfl := Rs.of_ints hx1
    obtain rfl := Rs.of_ints hx2
    refine ⟨a1, a2, _, _, rfl, SqT.of (t2.sub.at (t2.bas _ _ ha1)), SqT.of (t2.sub.at ha2), by rw [figs_len]; omega, t2.sub.tab, fun H3 ht => ?_⟩
    exact k _ B2 H3 ((t1.trans t2).trans (.step t2.sub ⟨fun a o n e => by rw [ht.2 a n]; exact e, fun _ => ht.1⟩)) rfl
end
end K18

set_option Elab.async false
set_option linter.all false
set_option maxRecDepth 100000
set_option maxHeartbeats 2000000
/-! gray, widest, cut_links. -/
namespace K18
open PySem L2
section
variable {Pf : Addr} {P : Program} {w : World} {K : PySem.W.Frag} {mg : Str → Option Value} {base : Heap}
theorem s_for {σ : L2.St} {B H : Hp} {D : Ends} {wi : TI} {g : TG} {tb : TS} {ds : List PyData} (hi : Itd Pf wi σ B ds) (e : Sb Pf B H)
    (k : ∀ B1 H1, Tr Pf B H B1 H1 → ∃ Pv : Nat → L2.St → Hp → Prop, Pv 0 σ H1 ∧ (∀ i σ' H', i ≤ ds.length → Pv i σ' H' → Ex B1 H') ∧
      (∀ i d x σ' H', ds[i]? = some d → R B1 x d → Pv i σ' H' → g x σ' H' fun σ2 H2 => tb { D with nx := Pv (i + 1), ct := Pv (i + 1), bk := D.nx } σ2 H2) ∧ ∀ σ' H', Pv ds.length σ' H' → D.nx σ' H') : tFor wi g tb D σ H :=
  hi H e _ fun J G Y B1 H1 t w hG hY => by
    obtain ⟨Pv, h0, hx, hs, hd⟩ := k B1 H1 t
    refine for_it w Pv h0 (fun i σ' H' hi p => hG H' (hx i σ' H' hi p)) (fun i x σ' H' H2 hi p y => ?_) hd
    obtain ⟨e2, d, h1, h2⟩ := hY i H' x H2 hi (hx i σ' H' (Nat.le_of_lt hi) p) y
    subst e2
    exact hs i d x σ' H2 h1 h2 p
theorem q_for {σ : L2.St} {B H : Hp} {D : Ends} {wi : TI} {g : TG} {tb tz : TS} {ds : List PyData} (hi : Itd Pf wi σ B ds) (e : Sb Pf B H)
    (k : ∀ B1 H1, Tr Pf B H B1 H1 → ∃ Pv : Nat → L2.St → Hp → Prop, Pv 0 σ H1 ∧ (∀ i σ' H', i ≤ ds.length → Pv i σ' H' → Ex B1 H') ∧
      (∀ i d x σ' H', ds[i]? = some d → R B1 x d → Pv i σ' H' → g x σ' H' fun σ2 H2 => tb { D with nx := Pv (i + 1), ct := Pv (i + 1), bk := tz D } σ2 H2) ∧ ∀ σ' H', Pv ds.length σ' H' → tz D σ' H') : tSeq (tFor wi g tb) tz D σ H := s_for (D := { D with nx := tz D }) hi e k
def intOf : PyData → Int
  | .int i => i
  | _ => 0
/-! ### gray -/
def grayF : Nat → List Int
  | 0 => [0, 1]
  | i + 1 => grayF i ++ (grayF i).reverse.map fun a => 2 ^ (i + 1) + a
theorem gray_len : ∀ i, (grayF i).length = 2 ^ (i + 1)
  | 0 => rfl
  | i + 1 => by
    unfold grayF
    rw [List.length_append, List.length_map, List.length_reverse, gray_len i, Nat.pow_succ 2 (i + 1)]
    omega
theorem scGy : FnScope ["ways", "found", "way", "one"] ["ways"] (defScope sGray) := ⟨rfl, rfl, rfl, by decide +kernel, rfl, by decide +kernel, by decide +kernel⟩
def preGy : List V → Hp → Rl → Prop := fun vs B r => ∃ (n : Nat), vs = [.int (n : Int)] ∧ 1 ≤ n ∧ n ≤ 3 ∧ r = rD (.tuple ((grayF (n - 1)).map .int))
theorem ok_gray {f fP : Addr} {fd fdP : FuncData} (F : Fun K "gray" "gray" sGray f fd) (b : BI mg) (mP : mg "power_of_two" = some (.ref fP)) (kP : PySem.W.keepIn K (.ref fP) = true) (FP : FnOk P w K mg base CX0 1 fP fdP ["count"] (Pr Pf prePow)) (bP : Binds K fdP ["count"] []) :
    FnOk P w K mg base CX0 2 f fd ["ways"] (Pr Pf preGy) := by
  refine F.ok scGy (fun vs H Q E h => ?_) (fun cdv A outer s H vs Q E hr h => ?_)
  · obtain ⟨B, r, e, ⟨n, rfl, _⟩, _⟩ := h
    rfl
  · obtain ⟨B, r, eb, ⟨n, rfl, hn1, hn, rfl⟩, k⟩ := h
    have hr1 : Room 1 _ := hr
    refine ⟨_, pss_cons (ps_set (i := 1) scGy.nd rfl (.inl rfl) (pe_lst (pa_cons pe_int (pa_cons pe_int pa_nil))))
      (pss_cons (ps_for PassesOwn.never rfl (pi_range2 (by rfl) b.range (pa_cons pe_int (pa_cons (pv 0) pa_nil))) (pg_name (i := 2) scGy.nd rfl (.inr rfl))
        (pss_one (ps_aug (i := 1) scGy.nd rfl (.inl rfl)
          (pe_lc (own := [("one", 3)]) (g := gName 3) (tt := tYes) (te := tOp (rI0 fun i j => .int (i + j)) (tCall (Pr Pf prePow) [] E00 (tCons (tVar 2) tNil)) (tVar 3)) rfl scGy.nd (pi_reversed (by rfl) b.rev (pa_cons (pv 1) pa_nil)) (blkOk_by (N := ["ways", "found", "way", "one"]) (sc := defScope sGray) (by decide +kernel))
            (fun _ _ _ _ _ => pg_name (i := 3) scGy.nd rfl (Or.inl rfl)) (fun _ _ _ _ _ => pts_nil) (fun _ _ _ _ _ => pe_op op_add (pe_call FP hr1 (by rfl) mP kP bP .nil pass0 (pa_cons (pv 2) pa_nil)) (pv 3)))
          iop_ext)))
      (pss_one (ps_ret (pe_callTy call_tuple_of (by rfl) b.tuple PyProof.Rows.boot_tuple (pa_cons (pv 1) pa_nil))))), ?_⟩
    refine ⟨by show 2 ≤ sizeLine; decide, fun l hl => ?_⟩
    have nl := eb.ne hl
    have bl := eb.fresh hl
    have s1 : Tr Pf B H B (upd H l (.lst [.int 0, .int 1])) := .side eb hl
    refine q_for (B := B) (itd_range2 (lo := 1) (hi := (n : Int)) ev_c (ev_var rfl) ⟨by omega, by omega, by omega, by omega⟩) s1.sub fun B1 H1 t1 => ?_
    have t01 := s1.trans t1
    have hl1 : H1 l = some (.lst [.int 0, .int 1]) := (t1.held nl bl upd_same (fun xs z => nomatch z)).2
    have ax1 : Ax Pf H H1 := t01.act
    have ebs : Sb Pf B1 H1 := t1.sub
    have bl1 : B1 l = none := (t1.held nl bl upd_same (fun xs z => nomatch z)).1
    refine ⟨fun i σ' H' => ∃ y : Option V, σ' = [some (.int (n : Int)), some (.ref l), y, none] ∧ Ax Pf H H' ∧ Ex B1 H' ∧ H' l = some (.lst ((grayF i).map V.int)), ⟨none, rfl, ax1, ebs.ex, hl1⟩, fun i σ' H' _ ⟨_, _, _, h, _⟩ => h, ?_, ?_⟩
    · rintro i d x σ' H' hd rx ⟨y, rfl, ax, ex1, hL⟩
      have hi : i < ((n : Int) - 1).toNat := by
        have := (List.getElem?_eq_some_iff.mp hd).1
        rwa [rgD_len] at this
      rw [rgD_get hi] at hd
      have hd := Option.some.inj hd
      subst hd
      have rx := R.int_inv rx
      subst rx
      have tb := (Tr.step eb ax).take hl hL bl nl
      refine ⟨.ref l, rfl, ?_⟩
      have k1 := ed_lc1 (Pf := Pf) (B := upd B l (.lst ((grayF i).map V.int))) (σ := [some (.int (n : Int)), some (.ref l), some (.int (1 + (i : Int))), none]) (j := 3) (vs := [3]) (wi := iRev K (tCons (tVar 1) tNil)) (te := tOp (rI0 fun i j => .int (i + j)) (tCall (Pr Pf prePow) [] E00 (tCons (tVar 2) tNil)) (tVar 3)) (ds := ((grayF i).map PyData.int).reverse) (fun d => .int (2 ^ (i + 1) + intOf d))
        (itd_rev (eg_var rfl (.lst upd_same (Rs.ints _)))) (by
          rw [List.length_reverse, List.length_map, gray_len]
          have : 2 ^ (i + 1) ≤ 2 ^ 3 := Nat.pow_le_pow_right (by decide) (by omega)
          omega) (fun x => rfl) fun d hd y B2 e2 ry => by
          rw [List.mem_reverse] at hd
          obtain ⟨z, hz, rfl⟩ := List.mem_map.mp hd
          have ry := R.int_inv ry
          subst ry
          refine ed_int (ev_op (ev_eg (eg_call (r := rV (.int (2 ^ (i + 1)))) (rs := [rV (.int (1 + (i : Int)))]) (ea_cons mono_V (eg_ev (ev_var rfl) rfl) fun _ _ => ea_nil) fun vs B3 e3 hv => ?_)) (ev_var rfl) rv_I0)
          match vs, hv with
          | [a], ⟨h1, _⟩ =>
            have h1 : a = .int (1 + (i : Int)) := h1
            subst h1
            exact ⟨i + 1, by congr 2; omega, by omega, rfl⟩
      refine k1 H' tb.sub _ fun v B2 H2 t2 r2 => ?_
      obtain ⟨b2, zs, rfl, hb2, hz⟩ := R.lst_inv r2
      have ez : (((grayF i).map PyData.int).reverse.map fun d => PyData.int (2 ^ (i + 1) + intOf d)) = ((grayF i).reverse.map fun a => 2 ^ (i + 1) + a).map PyData.int := by
        rw [← List.map_reverse, List.map_map, List.map_map]
        rfl
      rw [ez] at hz
      obtain rfl := Rs.of_ints hz
      refine ⟨l, b2, _, _, rfl, rfl, t2.sub.at (t2.bas _ _ upd_same), t2.sub.at hb2, ?_, some (.int (1 + (i : Int))), rfl, ?_, ?_, ?_⟩
      · rw [List.length_map, List.length_map, List.length_map, List.length_reverse, gray_len]
        have : 2 ^ (i + 1) ≤ 2 ^ 3 := Nat.pow_le_pow_right (by decide) (by omega)
        exact sz_of (by omega)
      · exact (ax.trans t2.act).mut hl nl
      · refine Ex.mut (fun a o h => t2.act.keep a o (fun z => ?_) (ex1 a o h)) bl1
        rw [z, ebs.no] at h
        cases h
      · rw [upd_same, ← List.map_append]
        rfl
    · rintro σ' H' ⟨y, rfl, ax, ex1, hL⟩
      have tb := (Tr.step eb ax).take hl hL bl nl
      have e2 : (rgD 1 ((n : Int) - 1).toNat).length = n - 1 := by rw [rgD_len]; omega
      rw [e2] at hL tb
      exact ed_tupOf (K := K) (eg_var (Pf := Pf) (B := upd B l (.lst ((grayF (n - 1)).map V.int))) (σ := [some (.int (n : Int)), some (.ref l), y, none]) (i := 1) (r := rD (.list ((grayF (n - 1)).map .int))) rfl (.lst upd_same (Rs.ints _))) H' tb.sub _ fun v B3 H3 t3 r3 => k v B3 H3 (tb.trans t3) r3
/-! ### widest -/
def preW (C : Addr) (preN preF : List V → Hp → Rl → Prop) : List V → Hp → Rl → Prop := fun vs B r => ∃ (p dx : Addr) (fs : List (Str × V)) (ds : List PyData) (far : PyData → PyData → Int), vs = [.ref p] ∧ B p = some (.ins C dx fs) ∧ fs.lookup ("nodes" : Str) = none ∧ fs.lookup ("far" : Str) = none ∧
  (∀ B', Ex B B' → preN [.ref p] B' (rD (.tuple ds))) ∧ (∀ B' a b x y, a ∈ ds → b ∈ ds → Ex B B' → R B' x a → R B' y b → preF [.ref p, x, y] B' (rV (.int (far a b)))) ∧ 0 < ds.length ∧ ds.length ≤ 200 ∧ r = rV (.int (maxZ (ds.flatMap fun a => ds.map (far a))))
theorem scW : FnScope ["shape", "one", "other"] ["shape"] (defScope sWidest) := ⟨rfl, rfl, rfl, by decide +kernel, rfl, by decide +kernel, by decide +kernel⟩
theorem ok_widest {C f fN fF : Addr} {fd fdN fdF : FuncData} {preN preF : List V → Hp → Rl → Prop} {kN kF : Nat} (hkN : kN ≤ 2) (hkF : kF ≤ 2) (F : Fun K "widest" "widest" sWidest f fd) (b : BI mg) (cl : Cls K C) (mN : Meth K C "nodes" fN) (FN : FnOk P w K mg base CX0 kN fN fdN ["self"] (Pr Pf preN)) (bN : Binds K fdN ["self"] [])
    (mF : Meth K C "far" fF) (FF : FnOk P w K mg base CX0 kF fF fdF ["self", "one", "other"] (Pr Pf preF)) (bF : Binds K fdF ["self", "one", "other"] []) : FnOk P w K mg base CX0 3 f fd ["shape"] (Pr Pf (preW C preN preF)) := by
  refine F.ok scW (fun vs H Q E h => ?_) (fun cdv A outer s H vs Q E hr h => ?_)
  · obtain ⟨B, r, e, ⟨p, _, _, _, _, rfl, _⟩, _⟩ := h
    rfl
  · obtain ⟨B, r, eb, ⟨p, dx, fs, ds, far, rfl, hp, n1, n2, hN, hF, h0, h2, rfl⟩, k⟩ := h
    have hr2 : Room 2 _ := hr
    have hrN := hr2.mono hkN
    have hrF := hr2.mono hkF
    refine ⟨_, pss_one (ps_ret (pe_callB (cr_max rfl) (by rfl) b.max PyProof.Rows.boot_max (pa_cons
      (pe_lc2 (own := [("one", 1), ("other", 2)]) (vs1 := [2]) (g := gName 1) (g1 := gName 2) (tt := tYes) (tt1 := tYes) (wi1 := iTup K (tMeth C "nodes" (Pr Pf preN) [] E00 (tVar 0) tNil)) (te := tMeth C "far" (Pr Pf preF) [] E00 (tVar 0) (tCons (tVar 1) (tCons (tVar 2) tNil))) rfl scW.nd
        (pi_tup (pe_meth0 (E := E00) (pv 0) cl mN FN hrN bN .nil pass0)) (blkOk_by (N := ["shape", "one", "other"]) (sc := defScope sWidest) (by decide +kernel)) (by decide)
        (fun _ _ _ _ _ => pg_name (i := 1) scW.nd rfl (Or.inl rfl)) (fun _ _ _ _ _ => pts_nil)
        (fun _ _ _ _ _ => pi_tup (pe_meth0 (E := E00) (pv 0) cl mN FN hrN bN .nil pass0))
        (fun _ _ _ _ _ => pg_name (i := 2) scW.nd rfl (Or.inl rfl)) (fun _ _ _ _ _ => pts_nil)
        (fun _ _ _ _ _ => pe_meth (pv 0) cl mF FF hrF bF .nil pass0 (pa_cons (pv 1) (pa_cons (pv 2) pa_nil)))) pa_nil))), ?_⟩
    have nodes : ∀ {σ : L2.St} {B' : Hp}, Ex B B' → σ[0]? = some (some (.ref p)) → Itd Pf (iTup K (tMeth C "nodes" (Pr Pf preN) [] E00 (tVar 0) tNil)) σ B' ds := fun e hσ =>
      itd_tup (K := K) (eg_meth (rs := []) (ev_var hσ) (e _ _ hp) n1 ea_nil fun vs B2 e2 hv => by
        match vs, hv with
        | [], _ => exact hN _ (e.trans e2))
    have ez : (ds.flatMap fun a => ds.map fun b => PyData.int (far a b)) = (ds.flatMap fun a => ds.map (far a)).map PyData.int := by
      rw [List.map_flatMap]
      congr 1
      funext a
      rw [List.map_map]
      rfl
    have len : ∀ {α : Type} (f : PyData → PyData → α) (l : List PyData), (l.flatMap fun a => ds.map (f a)).length = l.length * ds.length := fun f l => by
      induction l with
      | nil => simp
      | cons a l ih => rw [List.flatMap_cons, List.length_append, ih, List.length_map, List.length_cons, Nat.succ_mul, Nat.add_comm]
    have k1 := ed_lc2 (j := 1) (k := 2) (vs := [1, 2]) (vs1 := [2]) (Pf := Pf) (B := B) (σ := [some (.ref p), none, none]) (ds := ds) (wi := iTup K (tMeth C "nodes" (Pr Pf preN) [] E00 (tVar 0) tNil)) (wi1 := iTup K (tMeth C "nodes" (Pr Pf preN) [] E00 (tVar 0) tNil))
      (te := tMeth C "far" (Pr Pf preF) [] E00 (tVar 0) (tCons (tVar 1) (tCons (tVar 2) tNil))) (fun _ => ds) (fun a b => .int (far a b)) (nodes (Ex.refl _) rfl)
      (by
        have := len (fun _ b => b) ds
        simp only [List.map_id'] at this
        rw [this]
        have := Nat.mul_le_mul h2 h2
        omega) (fun x => rfl) (fun x y => rfl) (fun d hd x B1 e1 rx => nodes e1 rfl)
      (fun d hd q hq x y B1 e1 rx ry => ed_int (ev_eg (eg_meth (rs := [rD d, rD q]) (ev_var rfl) (e1 _ _ hp) n2 (ea_cons mono_D (eg_var rfl rx) fun B2 e2 => ea_cons mono_D (eg_var rfl (R.mono e2 _ ry)) fun _ _ => ea_nil) fun vs B2 e2 hv => by
        match vs, hv with
        | [a, c], ⟨g1, g2, _⟩ => exact hF _ d q a c hd hq (e1.trans e2) g1 g2)))
    rw [ez] at k1
    refine ev_maxL k1 ?_ H eb _ fun H1 a1 => k _ B H1 (.step eb a1) rfl
    rw [len far]
    exact Nat.mul_pos h0 h0
end
end K18

set_option Elab.async false
set_option linter.all false
set_option maxRecDepth 100000
set_option maxHeartbeats 2000000
/-! The spreading: its mirror, and the loop that two defs have. -/
namespace K18
open PySem L2
section
variable {α : Type} [DecidableEq α]
def getI (m : List (α × Int)) (a : α) : Option Int := (m.find? fun p => decide (p.1 = a)).map (·.2)
def visit (d : Int) (s : List (α × Int) × List α) (n : α) : List (α × Int) × List α := if (getI s.1 n).isSome then s else (s.1 ++ [(n, d + 1)], s.2 ++ [n])
def bfs (near : α → Option (List α)) : Nat → List (α × Int) → List α → Option (List (α × Int))
  | _, m, [] => some m
  | 0, _, _ :: _ => none
  | f + 1, m, a :: l =>
    if m.length ≤ 900 ∧ l.length ≤ 900 then
      match getI m a, near a with
      | some d, some ns => if ns.length ≤ 50 then bfs near f (ns.foldl (visit d) (m, l)).1 (ns.foldl (visit d) (m, l)).2 else none
      | _, _ => none
    else none
theorem getI_app {m : List (α × Int)} {a : α} {d : Int} (r : List (α × Int)) (h : getI m a = some d) : getI (m ++ r) a = some d := by
  unfold getI at h ⊢
  rw [List.find?_append]
  cases q : m.find? fun p => decide (p.1 = a) with
  | none =>
    rw [q] at h
    cases h
  | some p =>
    rw [q] at h
    exact h
theorem bfs_cons {near : α → Option (List α)} {f : Nat} {m res : List (α × Int)} {a : α} {l : List α} (h : bfs near (f + 1) m (a :: l) = some res) :
    m.length ≤ 900 ∧ l.length ≤ 900 ∧ ∃ d ns, getI m a = some d ∧ near a = some ns ∧ ns.length ≤ 50 ∧ bfs near f (ns.foldl (visit d) (m, l)).1 (ns.foldl (visit d) (m, l)).2 = some res := by
  unfold bfs at h
  split at h
  · rename_i c
    split at h
    · rename_i d ns h1 h2
      split at h
      · exact ⟨c.1, c.2, d, ns, h1, h2, by assumption, h⟩
      · cases h
    · cases h
  · cases h
variable {κ : Type} [DecidableEq κ] {kf : α → κ} {f : α → PyData} {mkD : List (κ × V) → HO}
def ksOf (kf : α → κ) (m : List (α × Int)) : List (κ × V) := m.map fun p => (kf p.1, V.int p.2)
structure Enc (kf : α → κ) (f : α → PyData) (mkD : List (κ × V) → HO) : Prop where
  inj : ∀ a b, kf a = kf b ↔ a = b
  get : ∀ {Pf : Addr} {B H : Hp} {y : V} {a : α} {D : Addr} {ks : List (κ × V)}, Sb Pf B H → R B y (f a) → H D = some (mkD ks) → DGet H D y (valV ks (kf a))
  put : ∀ {Pf : Addr} {B H : Hp} {y v : V} {a : α} {D : Addr} {ks : List (κ × V)}, Sb Pf B H → R B y (f a) → H D = some (mkD ks) → ks.length < sizeLine → DPut H D y v (upd H D (mkD (putK ks (kf a) v)))
  ntup : ∀ ks xs, mkD ks ≠ .tup xs
  shp : ∀ a, Shp 1 (f a)
theorem val_ksOf (hi : ∀ a b, kf a = kf b ↔ a = b) (a : α) : ∀ m : List (α × Int), valV (ksOf kf m) (kf a) = (getI m a).map V.int
  | [] => rfl
  | p :: m => by
    have ih := val_ksOf hi a m
    by_cases h : p.1 = a
    · rw [show ksOf kf (p :: m) = (kf p.1, V.int p.2) :: ksOf kf m from rfl, valV_pos (p := (kf p.1, V.int p.2)) ((hi _ _).mpr h)]
      unfold getI
      rw [List.find?_cons, decide_eq_true h]
      rfl
    · rw [show ksOf kf (p :: m) = (kf p.1, V.int p.2) :: ksOf kf m from rfl, valV_neg (p := (kf p.1, V.int p.2)) (fun z => h ((hi _ _).mp z)), ih]
      unfold getI
      rw [List.find?_cons, decide_eq_false h]
theorem put_ksOf (hi : ∀ a b, kf a = kf b ↔ a = b) {m : List (α × Int)} {a : α} {d : Int} (h : getI m a = none) : putK (ksOf kf m) (kf a) (V.int d) = ksOf kf (m ++ [(a, d)]) := by
  rw [putK_new _ (by rw [val_ksOf hi, h]; rfl)]
  unfold ksOf
  rw [List.map_append]
  rfl
/-- the dict at D, the list at L, both beside the base -/
structure St2 (kf : α → κ) (f : α → PyData) (mkD : List (κ × V) → HO) (Pf : Addr) (B H : Hp) (D L : Addr) (Bc Hc : Hp) (m : List (α × Int)) (l : List α) : Prop where
  tr : Tr Pf B H Bc Hc
  bD : Bc D = none
  bL : Bc L = none
  ne : D ≠ L
  hD : Hc D = some (mkD (ksOf kf m))
  hL : ∃ xs, Hc L = some (.lst xs) ∧ Rs Bc xs (l.map f)
variable {Pf : Addr} {B H Bc Hc B2 H2 : Hp} {D L : Addr} {m : List (α × Int)} {l : List α}
theorem St2.step (e : Enc kf f mkD) (nD : D ≠ Pf) (nL : L ≠ Pf) (x : St2 kf f mkD Pf B H D L Bc Hc m l) (t : Tr Pf Bc Hc B2 H2) : St2 kf f mkD Pf B H D L B2 H2 m l := by
  obtain ⟨xs, h1, h2⟩ := x.hL
  obtain ⟨a1, a2⟩ := t.held nD x.bD x.hD (e.ntup _)
  obtain ⟨b1, b2⟩ := t.held nL x.bL h1 (fun xs z => nomatch z)
  exact ⟨x.tr.trans t, a1, b1, x.ne, a2, xs, b2, h2.mono t.bas⟩
theorem St2.setD (nD : D ≠ Pf) (fD : H D = none) (x : St2 kf f mkD Pf B H D L Bc Hc m l) (m' : List (α × Int)) : St2 kf f mkD Pf B H D L Bc (upd Hc D (mkD (ksOf kf m'))) m' l := by
  obtain ⟨xs, h1, h2⟩ := x.hL
  exact ⟨x.tr.mutn fD nD x.bD, x.bD, x.bL, x.ne, upd_same, xs, by rw [upd_ne (Ne.symm x.ne)]; exact h1, h2⟩
theorem St2.setL (nL : L ≠ Pf) (fL : H L = none) (x : St2 kf f mkD Pf B H D L Bc Hc m l) {xs : List V} {l' : List α} (h : Rs Bc xs (l'.map f)) : St2 kf f mkD Pf B H D L Bc (upd Hc L (.lst xs)) m l' :=
  ⟨x.tr.mutn fL nL x.bL, x.bD, x.bL, x.ne, by rw [upd_ne x.ne]; exact x.hD, xs, upd_same, h⟩
def farBody (K : PySem.W.Frag) (wi : TI) (iF iL iH iN : Nat) : TS :=
  tSeq (tAsg (tBM K "list" rPopAt (tVar iL) (tCons (tC (.int 0)) tNil)) (gName iH)) (tFor wi (gName iN) (tIfS (tB (tDNotIn (tVar iN) (tVar iF)))
    (tSeq (sDPut (tVar iF) (tVar iN) (tOp (rI0 fun i j => .int (i + j)) (tDGet (tVar iF) (tVar iH)) (tC (.int 1)))) (tDrop (tBM K "list" rAppend (tVar iL) (tCons (tVar iN) tNil)))) tNext))
theorem far_loop {K : PySem.W.Frag} {wi : TI} {iF iL iH iN : Nat} {mk : Option V → Option V → L2.St} {DD : Ends} {near : α → Option (List α)} {y0 z0 : Option V} {fuel : Nat} {res : List (α × Int)}
    (e : Enc kf f mkD) (nD : D ≠ Pf) (nL : L ≠ Pf) (fD : H D = none) (fL : H L = none)
    (sF : ∀ y z, (mk y z)[iF]? = some (some (.ref D))) (sL : ∀ y z, (mk y z)[iL]? = some (some (.ref L))) (sH : ∀ y z, (mk y z)[iH]? = some y) (sN : ∀ y z, (mk y z)[iN]? = some z)
    (tH : ∀ y z x, (mk y z).set iH x = mk x z) (tN : ∀ y z x, (mk y z).set iN x = mk y x)
    (hN : ∀ a ns x z B', near a = some ns → Ex B B' → R B' x (f a) → Itd Pf wi (mk (some x) z) B' (ns.map f))
    (h0 : St2 kf f mkD Pf B H D L Bc Hc m l) (hb : bfs near fuel m l = some res)
    (k : ∀ B' H' y z, St2 kf f mkD Pf B H D L B' H' res [] → DD.nx (mk y z) H') :
    tWhile (tTest (tOp (rNeD K) (tVar iL) (tLst tNil))) (farBody K wi iF iL iH iN) DD (mk y0 z0) Hc := by
  refine ⟨fun n σ H' => ∃ B' m l y z, σ = mk y z ∧ St2 kf f mkD Pf B H D L B' H' m l ∧ bfs near n m l = some res, ⟨fuel, Bc, m, l, y0, z0, rfl, h0, hb⟩, ?_⟩
  rintro n σ H1 ⟨B1, m1, l1, y, z, rfl, x1, hb1⟩
  obtain ⟨xs, hL, hxs⟩ := id x1.hL
  refine ⟨_, sL y z, by decide, fun p hp => ?_⟩
  have t1 : Tr Pf B1 H1 B1 (upd H1 p (.lst [])) := .side x1.tr.sub hp
  have x2 := x1.step e nD nL t1
  have np : L ≠ p := fun zz => by rw [zz, hp] at hL; cases hL
  have hL2 : (upd H1 p (.lst [])) L = some (.lst xs) := by rw [upd_ne np]; exact hL
  refine ⟨.list (l1.map f), .list [], R.dp (.list (l1.map f)) (.lst hL2 (hxs.mono t1.sub.ex)), R.dp (.list []) (.lst upd_same .nil), (shp_map e.shp l1).ok (by decide), (shp_list (k := 0) fun a ha => absurd ha List.not_mem_nil).ok (by decide), _, rfl, ?_⟩
  cases l1 with
  | nil =>
    have : (!PyData.eqv (.list (([] : List α).map f)) (.list [])) = false := by simp [PyData.eqv, PyData.eqvAll]
    rw [this]
    refine iteF ?_
    have er : m1 = res := by
      unfold bfs at hb1
      exact Option.some.inj hb1
    subst er
    exact k B1 _ y z x2
  | cons a l1 =>
    have : (!PyData.eqv (.list ((a :: l1).map f)) (.list [])) = true := by simp [PyData.eqv, PyData.eqvAll]
    rw [this]
    refine iteT ?_
    cases n with
    | zero =>
      unfold bfs at hb1
      cases hb1
    | succ n =>
      obtain ⟨c1, c2, d, ns, hg, hnear, hns, hb2⟩ := bfs_cons hb1
      refine ⟨fun σ H' => ∃ B' m l y z, σ = mk y z ∧ St2 kf f mkD Pf B H D L B' H' m l ∧ bfs near n m l = some res, fun σ' H' h => ⟨n, Nat.lt_succ_self _, h⟩, ?_⟩
      cases hxs with
      | @cons x0 xs' _ _ ra hxs' =>
        refine ⟨_, sL y z, .inl ⟨rfl, _, SqL.of hL2⟩, L, _, 0, 0, x0, rfl, rfl, hL2, by decide, by decide, ?_, rfl, ?_⟩
        · unfold seqIndex?
          simp
        · show tFor _ _ _ _ ((mk y z).set iH (some x0)) _
          rw [tH]
          have x3 : St2 kf f mkD Pf B H D L B1 (upd (upd H1 p (.lst [])) L (.lst xs')) m1 l1 := x2.setL nL fL hxs'
          refine s_for (hN a ns x0 z B1 hnear x3.tr.bas ra) x3.tr.sub fun B3 H3 t3 => ?_
          have x4 := x3.step e nD nL t3
          refine ⟨fun i σ' H' => ∃ B' y', σ' = mk (some x0) y' ∧ Ex B3 B' ∧ St2 kf f mkD Pf B H D L B' H' ((ns.take i).foldl (visit d) (m1, l1)).1 ((ns.take i).foldl (visit d) (m1, l1)).2 ∧
              getI ((ns.take i).foldl (visit d) (m1, l1)).1 a = some d ∧ ((ns.take i).foldl (visit d) (m1, l1)).1.length ≤ 900 + i ∧ ((ns.take i).foldl (visit d) (m1, l1)).2.length ≤ 900 + i,
            ⟨B3, z, rfl, Ex.refl _, x4, hg, by simpa using c1, by simpa using c2⟩, fun i σ' H' _ ⟨B', _, _, e1, x5, _⟩ => e1.trans x5.tr.sub.ex, ?_, ?_⟩
          · rintro i dd x σ' H' hdd rx ⟨B', y', rfl, e1, x5, hg5, z1, z2⟩
            rw [List.getElem?_map] at hdd
            cases hn : ns[i]? with
            | none =>
              rw [hn] at hdd
              cases hdd
            | some nn =>
              rw [hn] at hdd
              have hdd := Option.some.inj hdd
              subst hdd
              have hi : i < ns.length := (List.getElem?_eq_some_iff.mp hn).1
              have rx5 := R.mono e1 _ rx
              have tk : (ns.take (i + 1)).foldl (visit d) (m1, l1) = visit d ((ns.take i).foldl (visit d) (m1, l1)) nn := by
                rw [List.take_add_one, hn, List.foldl_append]
                rfl
              have ra5 : R B' x0 (f a) := R.mono (t3.bas.trans e1) _ ra
              show tIfS _ _ _ _ ((mk (some x0) y').set iN (some x)) _
              rw [tN]
              obtain ⟨st, hst⟩ : ∃ st, (ns.take i).foldl (visit d) (m1, l1) = st := ⟨_, rfl⟩
              rw [hst] at x5 hg5 z1 z2 tk
              obtain ⟨ms, ls⟩ := st
              have vn := val_ksOf e.inj nn ms
              refine ⟨_, by rw [sN], _, sF _ _, D, _, rfl, e.get x5.tr.sub rx5 x5.hD, _, rfl, ?_⟩
              rw [vn]
              cases hv : getI ms nn with
              | some dd =>
                refine iteF ?_
                have ev : visit d (ms, ls) nn = (ms, ls) := by
                  unfold visit
                  rw [hv]
                  rfl
                refine ⟨B', some x, rfl, e1, ?_⟩
                rw [tk, ev]
                exact ⟨x5, hg5, Nat.le_succ_of_le z1, Nat.le_succ_of_le z2⟩
              | none =>
                refine iteT ?_
                have ev : visit d (ms, ls) nn = (ms ++ [(nn, d + 1)], ls ++ [nn]) := by
                  unfold visit
                  rw [hv]
                  rfl
                have va := val_ksOf e.inj a ms
                rw [show getI ms a = some d from hg5] at va
                have g0 := e.get x5.tr.sub ra5 x5.hD
                rw [va] at g0
                have sz : (ksOf kf ms).length < sizeLine := by
                  unfold ksOf
                  rw [List.length_map]
                  exact sz_lt (Nat.lt_of_le_of_lt z1 (by omega))
                have p0 := e.put (v := .int (d + 1)) x5.tr.sub rx5 x5.hD sz
                rw [put_ksOf e.inj hv] at p0
                have x6 := x5.setD nD fD (ms ++ [(nn, d + 1)])
                obtain ⟨ys, hys, rys⟩ := id x6.hL
                refine ⟨_, sF _ _, _, by rw [sH], D, _, rfl, g0, _, _, rfl, rfl, _, sF _ _, _, by rw [sN], D, _, rfl, p0, ?_⟩
                refine ⟨_, sL _ _, .inl ⟨rfl, _, SqL.of hys⟩, _, by rw [sN], L, _, x, rfl, rfl, hys, ?_, ?_⟩
                · rw [rys.length, List.length_map]
                  exact sz_lt (Nat.lt_of_le_of_lt z2 (by omega))
                · refine ⟨B', some x, rfl, e1, ?_⟩
                  rw [tk, ev]
                  refine ⟨x6.setL nL fL (l' := ls ++ [nn]) ?_, getI_app _ hg5, ?_, ?_⟩
                  · rw [List.map_append]
                    exact rys.snoc rx5
                  · rw [List.length_append, List.length_singleton]
                    exact Nat.succ_le_succ z1
                  · rw [List.length_append, List.length_singleton]
                    exact Nat.succ_le_succ z2
          · rintro σ' H' ⟨B', y', rfl, e1, x5, _⟩
            rw [List.length_map, List.take_of_length_le (Nat.le_refl _)] at x5
            exact ⟨B', _, _, some x0, y', rfl, x5, hb2⟩
end
end K18

set_option Elab.async false
set_option linter.all false
set_option maxRecDepth 100000
set_option maxHeartbeats 2000000
/-! cut_links; the spreading; steps_between. -/
namespace K18
open PySem L2
section
variable {Pf : Addr} {P : Program} {w : World} {K : PySem.W.Frag} {mg : Str → Option Value} {base : Heap}
def cutG (w h : Nat) (e : Bool) (side : List (Int × Int)) : Nat := ((linksG w h e).filter fun l => decide (l.1 ∈ side) && !decide (l.2 ∈ side)).length
theorem links_len (w h : Nat) (e : Bool) (hs : Sml w h) : (linksG w h e).length ≤ 64 := by
  unfold linksG
  rw [List.length_flatMap]
  refine Nat.le_trans (sum_le (c := 4) (fun n => by rw [List.length_map]; exact near_len w h e n) _) ?_
  rw [gnodes_len]
  obtain ⟨w1, w4, h1, h4⟩ := hs
  have := Nat.mul_le_mul h4 w4
  omega
def fst2 : PyData → PyData
  | .tuple [a, _] => a
  | _ => .none
def snd2 : PyData → PyData
  | .tuple [_, b] => b
  | _ => .none
theorem shp_nodes (l : List (Int × Int)) : Shp 2 (.list (l.map nodeD)) := shp_map shp_node l
theorem scK : FnScope ["shape", "side", "one", "other"] ["shape", "side"] (defScope sCut) := ⟨rfl, rfl, rfl, by decide +kernel, rfl, by decide +kernel, by decide +kernel⟩
def preK (C : Addr) : List V → Hp → Rl → Prop := fun vs B r => ∃ (p : Addr) (w h : Nat) (e : Bool) (x : V) (side : List (Int × Int)), vs = [.ref p, x] ∧ GB C B p w h e ∧ Sml w h ∧ R B x (.list (side.map nodeD)) ∧ r = rV (.int (cutG w h e side : Nat))
theorem ok_cut {C f fL : Addr} {fd fdL : FuncData} (F : Fun K "cut_links" "cut_links" sCut f fd) (b : BI mg) (cl : Cls K C) (mL : Meth K C "links" fL) (FL : FnOk P w K mg base CX0 3 fL fdL ["self"] (Pr Pf (preGL C))) (bL : Binds K fdL ["self"] []) :
    FnOk P w K mg base CX0 4 f fd ["shape", "side"] (Pr Pf (preK C)) := by
  refine F.ok scK (fun vs H Q E h => ?_) (fun cdv A outer s H vs Q E hr h => ?_)
  · obtain ⟨B, r, e, ⟨p, _, _, _, _, _, rfl, _⟩, _⟩ := h
    rfl
  · obtain ⟨B, r, eb, ⟨p, w, h, e, x, side, rfl, hg, hs, hx, rfl⟩, k⟩ := h
    have hr3 : Room 3 _ := hr
    have hu65 : A.units + 3 + 65 < cLine := by have h1 := hr.un; have h2 : (A.deeper (PyProof.Rows.envOfC "cut_links" (defScope sCut) s.heap.objs.size f cdv)).units = A.units + 3 := rfl; rw [h2] at h1; omega
    obtain ⟨dx, hp⟩ := id hg
    refine ⟨_, pss_one (ps_ret (pe_callB call_len_seq (by rfl) b.len PySem.boot_len (pa_cons
      (pe_lc (own := [("one", 2), ("other", 3)]) (g := gTup K 2 (gCons (gName 2) (gCons (gName 3) gNil))) (tt := tAnd (tTest (tOp (rInD K) (tVar 2) (tVar 1))) (tTest (tOp (rNotInD K) (tVar 3) (tVar 1)))) rfl scK.nd
        (pi_tup (pe_meth0 (E := E00) (pv 0) cl mL FL hr3 bL .nil pass0)) (blkOk_by (N := ["shape", "side", "one", "other"]) (sc := defScope sCut) (by decide +kernel))
        (fun _ _ _ _ _ => pg_tup rfl (pgs_cons (pg_name (i := 2) scK.nd rfl (Or.inl rfl)) (pgs_cons (pg_name (i := 3) scK.nd rfl (Or.inl rfl)) pgs_nil)))
        (fun _ _ _ _ _ => pts_one ((pw_and (pt_cmpR (op_inD hu65) (pv 2) (pv 1) (by rfl)) (pw_and1 (pt_cmpR (op_notInD hu65) (pv 3) (pv 1) (by rfl)))).pt)) (fun _ _ _ _ _ => pe_int)) pa_nil))), ?_⟩
    have k1 := ed_lcP (K := K) (j := 2) (k := 3) (vs := [2, 3]) (Pf := Pf) (B := B) (σ := [some (.ref p), some x, none, none]) (ds := (linksG w h e).map linkD) (wi := iTup K (tMeth C "links" (Pr Pf (preGL C)) [] E00 (tVar 0) tNil)) (te := tC (.int 1)) (tt := tAnd (tTest (tOp (rInD K) (tVar 2) (tVar 1))) (tTest (tOp (rNotInD K) (tVar 3) (tVar 1))))
      (fun d => ((side.map nodeD).any fun z => PyData.eqv z (fst2 d)) && !((side.map nodeD).any fun z => PyData.eqv z (snd2 d))) (fun _ => .int 1)
      (itd_tup (K := K) (eg_meth (rs := []) (ev_var rfl) hp (gF_no _ _ _ (by decide +kernel) (by decide +kernel) (by decide +kernel)) ea_nil fun vs B2 e2 hv => by
        match vs, hv with
        | [], _ => exact ⟨p, w, h, e, rfl, hg.mono e2, hs, rfl⟩))
      (by rw [List.length_map]; exact Nat.le_trans (links_len w h e hs) (by decide)) (fun x y => rfl)
      (fun d hd => by obtain ⟨l, _, rfl⟩ := List.mem_map.mp hd; exact ⟨_, _, rfl⟩)
      (fun a c hd x y B1 e1 rx ry => by
        obtain ⟨l, _, el⟩ := List.mem_map.mp hd
        cases el
        have hx1 := R.mono e1 _ hx
        exact et_and (et_inD (eg_var rfl rx) (fun B2 e2 => eg_var rfl (R.mono e2 _ hx1)) ((shp_node _).ok (by decide)) ((shp_nodes side).ok (by decide)))
          fun _ => et_ninD (eg_var rfl ry) (fun B2 e2 => eg_var rfl (R.mono e2 _ hx1)) ((shp_node _).ok (by decide)) ((shp_nodes side).ok (by decide)))
      (fun a c hd _ x y B1 e1 rx ry => eg_c (.int 1))
    rw [filter_map_inj (f := linkD) (u := fun l => decide (l.1 ∈ side) && !decide (l.2 ∈ side)) (g := fun _ => PyData.int 1) (fun l _ => by
        show (((side.map nodeD).any fun z => PyData.eqv z (nodeD l.1)) && !((side.map nodeD).any fun z => PyData.eqv z (nodeD l.2))) = _
        rw [any_inj inj_node, any_inj inj_node, Bool.eq_iff_iff]; simp only [Bool.and_eq_true, Bool.not_eq_true', decide_eq_true_eq, decide_eq_false_iff_not]) (fun _ _ _ => rfl)] at k1
    refine ev_lenL k1 H eb _ fun H1 a1 => ?_
    rw [List.length_map]
    exact k _ B H1 (.step eb a1) rfl
end
end K18

set_option Elab.async false
set_option linter.all false
set_option maxRecDepth 100000
set_option maxHeartbeats 2000000
/-! steps_between; the law's own spreading. -/
namespace K18
open PySem L2
theorem enc_T : Enc (α := Int × Int) pkey nodeD (fun ks => HO.dT ks) where
  inj := fun a b => pkey_inj
  get := fun {Pf B H y a D ks} e r h => by
    obtain ⟨b, rfl, hb⟩ := node_inv r
    exact DGet.t (k := pkey a) h (e.at hb)
  put := fun {Pf B H y v a D ks} e r h hl => by
    obtain ⟨b, rfl, hb⟩ := node_inv r
    exact DPut.t (k := pkey a) h (e.at hb) hl
  ntup := fun ks xs z => nomatch z
  shp := shp_node
theorem enc_K : Enc (α := Int) (κ := L2.Key) Sum.inl PyData.int (fun ks => HO.dK ks) where
  inj := fun a b => ⟨fun h => Sum.inl.inj h, fun h => by rw [h]⟩
  get := fun {Pf B H y a D ks} e r h => by
    have := R.int_inv r
    subst this
    exact DGet.k (k := Sum.inl a) h
  put := fun {Pf B H y v a D ks} e r h hl => by
    have := R.int_inv r
    subst this
    exact DPut.k (k := Sum.inl a) h hl
  ntup := fun ks xs z => nomatch z
  shp := fun a => shp_int a
section
variable {Pf : Addr} {P : Program} {w : World} {K : PySem.W.Frag} {mg : Str → Option Value} {base : Heap}
theorem scSB : FnScope ["shape", "one", "other", "seen", "left", "here", "node"] ["shape", "one", "other"] (defScope sSteps) := ⟨rfl, rfl, rfl, by decide +kernel, rfl, by decide +kernel, by decide +kernel⟩
def preSB (C : Addr) : List V → Hp → Rl → Prop := fun vs B r => ∃ (p : Addr) (w h : Nat) (e : Bool) (x y : V) (a c : Int × Int) (fuel : Nat) (res : List ((Int × Int) × Int)) (d : Int), vs = [.ref p, x, y] ∧ GB C B p w h e ∧ Sml w h ∧ R B x (nodeD a) ∧ R B y (nodeD c) ∧
  bfs (fun n => some (nearG w h e n)) fuel [(a, 0)] [a] = some res ∧ getI res c = some d ∧ r = rV (.int d)
theorem ok_steps {C f fR : Addr} {fd fdR : FuncData} (F : Fun K "steps_between" "steps_between" sSteps f fd) (b : BI mg) (cl : Cls K C) (mR : Meth K C "near" fR) (FR : FnOk P w K mg base CX0 2 fR fdR ["self", "node"] (Pr Pf (preGR C))) (bR : Binds K fdR ["self", "node"] []) :
    FnOk P w K mg base CX0 3 f fd ["shape", "one", "other"] (Pr Pf (preSB C)) := by
  refine F.ok scSB (fun vs H Q E h => ?_) (fun cdv A outer s H vs Q E hr h => ?_)
  · obtain ⟨B, r, e, ⟨p, _, _, _, _, _, _, _, _, _, _, rfl, _⟩, _⟩ := h
    rfl
  · obtain ⟨B, r, eb, ⟨p, w, h, e, x, y, a, c, fuel, res, d, rfl, hg, hs, hx, hy, hb, hd, rfl⟩, k⟩ := h
    have hr2 : Room 2 _ := hr
    have hu := hu_of hr
    have hu64 := hr.units
    have hu0 := Nat.lt_of_le_of_lt (Nat.le_add_right _ 64) hr.units
    refine ⟨_, pss_cons (ps_par (i := 3) (j := 4) rfl scSB.nd rfl rfl (by decide) rfl rfl (pa_cons (pe_disp1 hu0 (pv 1) pe_int) (pa_cons (pe_lst (pa_cons (pv 1) pa_nil)) pa_nil)) (by rfl))
      (pss_cons (ps_while PassesOwn.never (pt_cmpR (op_neD hu64) (pv 4) (pe_lst pa_nil) (by rfl))
        (pss_cons (ps_set (i := 5) scSB.nd rfl (.inl rfl) (pe_bm PySem.F.plainAttrs_list PySem.F.slot_list_pop PySem.F.type_list_pop mt_popAt (pv 4) (pa_cons pe_int pa_nil)))
        (pss_one (ps_for PassesOwn.never rfl (pi_tup (pe_meth (E := E00) (pv 0) cl mR FR hr2 bR .nil pass0 (pa_cons (pv 5) pa_nil))) (pg_name (i := 6) scSB.nd rfl (.inl rfl))
          (pss_one (ps_if (pt_cmp (pc_dnotin hu (pv 6) (pv 3)))
            (pss_cons (ps_dput hu (pv 3) (pv 6) (pe_op op_add (pe_dget hu (pv 3) (pv 5) (fun _ _ => rfl)) pe_int) rfl)
            (pss_one (ps_expr (pe_bm PySem.F.plainAttrs_list PySem.F.slot_list_append PySem.F.type_list_append mt_append (pv 4) (pa_cons (pv 6) pa_nil))))) pss_nil))))))
      (pss_one (ps_ret (pe_dget1 hu (pv 3) (pv 2) ⟨rfl, rfl, rfl, rfl⟩)))), ?_⟩
    obtain ⟨b1, rfl, hb1⟩ := node_inv hx
    refine fun D hD => ⟨_, rfl, b1, pkey a, rfl, upd_same, by rw [upd_ne (ne_of_none (eb.at hb1) hD)]; exact eb.at hb1, ?_⟩
    rw [upd_upd]
    refine ⟨_, rfl, by show 1 ≤ sizeLine; decide, fun L hL => ⟨_, _, rfl, ?_⟩⟩
    have nD := eb.ne hD
    have tD : Tr Pf B H B (upd H D (.dT [(pkey a, .int 0)])) := .side eb hD
    have nDL : L ≠ D := fun z => by rw [z, upd_same] at hL; cases hL
    have fL : H L = none := by rw [upd_ne nDL] at hL; exact hL
    have nL := eb.ne fL
    have s0 : St2 pkey nodeD (fun ks => HO.dT ks) Pf B H D L B (upd (upd H D (.dT [(pkey a, .int 0)])) L (.lst [V.ref b1])) [(a, 0)] [a] :=
      ⟨tD.mutn fL nL (eb.fresh fL), eb.fresh hD, eb.fresh fL, Ne.symm nDL, by rw [upd_ne (Ne.symm nDL), upd_same]; rfl, _, upd_same, .cons hx .nil⟩
    refine far_loop (K := K) (wi := iTup K (tMeth C "near" (Pr Pf (preGR C)) [] E00 (tVar 0) (tCons (tVar 5) tNil))) (iF := 3) (iL := 4) (iH := 5) (iN := 6) (mk := fun y1 z1 => [some (.ref p), some (.ref b1), some y, some (.ref D), some (.ref L), y1, z1]) (y0 := none) (z0 := none)
      enc_T nD nL hD fL (fun _ _ => rfl) (fun _ _ => rfl) (fun _ _ => rfl) (fun _ _ => rfl) (fun _ _ _ => rfl) (fun _ _ _ => rfl) (fun a ns x z B' hn e' rx => ?_) s0 hb (fun B' H' y1 z1 x1 => ?_)
    · have hn := Option.some.inj hn
      subst hn
      obtain ⟨dx, hp⟩ := hg.mono e'
      refine itd_tup (K := K) (eg_meth (rs := [rD (nodeD a)]) (ev_var rfl) hp (gF_no _ _ _ (by decide +kernel) (by decide +kernel) (by decide +kernel)) (ea_cons mono_D (eg_var rfl rx) fun _ _ => ea_nil) fun vs B2 e2 hv => ?_)
      match vs, hv with
      | [a'], ⟨h1, _⟩ => exact ⟨p, w, h, e, a, a', rfl, (hg.mono e').mono e2, hs, h1, rfl⟩
    · refine ⟨_, rfl, D, rfl, .inr ⟨_, .inl x1.hD⟩, _, rfl, _, enc_T.get x1.tr.sub (R.mono x1.tr.bas _ hy) x1.hD, ?_⟩
      rw [val_ksOf enc_T.inj, hd]
      exact k _ B' H' x1.tr rfl
/-! ### _law_far -/
def ksD {α κ : Type} (kf : α → κ) (m : List (α × Int)) : List (κ × PyData) := m.map fun p => (kf p.1, .int p.2)
theorem kvs_ks {α κ : Type} (kf : α → κ) (B : Hp) : ∀ m : List (α × Int), Kvs B (ksOf kf m) (ksD kf m)
  | [] => .nil
  | p :: m => .cons (.int _) (kvs_ks kf B m)
theorem scFr : FnScope ["_law_near", "_law_start", "_law_found", "_law_left", "_law_here", "_law_node"] ["_law_near", "_law_start"] (defScope sFar) := ⟨rfl, rfl, rfl, by decide +kernel, rfl, by decide +kernel, by decide +kernel⟩
/-- the neighbours that a dict tells -/
def nearT (N : List ((Int × Int) × List (Int × Int))) (n : Int × Int) : Option (List (Int × Int)) := (N.find? fun p => decide (p.1 = n)).map (·.2)
def nearK (N : List (Int × List Int)) (n : Int) : Option (List Int) := (N.find? fun p => decide (p.1 = n)).map (·.2)
abbrev ndT (N : List ((Int × Int) × List (Int × Int))) : List (List L2.Key × PyData) := N.map fun p => (pkey p.1, .list (p.2.map nodeD))
abbrev ndK (N : List (Int × List Int)) : List (L2.Key × PyData) := N.map fun p => (Sum.inl p.1, .list (p.2.map .int))
theorem atD_map {α κ β : Type} [DecidableEq α] [DecidableEq κ] {kf : α → κ} (hi : ∀ a b, kf a = kf b ↔ a = b) (g : β → PyData) (a : α) : ∀ N : List (α × β), atD (N.map fun p => (kf p.1, g p.2)) (kf a) = ((N.find? fun p => decide (p.1 = a)).map (·.2)).map g
  | [] => rfl
  | p :: N => by
    have ih := atD_map hi g a N
    by_cases h : p.1 = a
    · rw [List.map_cons, atD_pos (p := (kf p.1, g p.2)) ((hi _ _).mpr h), List.find?_cons, decide_eq_true h]
      rfl
    · rw [List.map_cons, atD_neg (p := (kf p.1, g p.2)) (fun z => h ((hi _ _).mp z)), ih, List.find?_cons, decide_eq_false h]
def preFT : List V → Hp → Rl → Prop := fun vs B r => ∃ (x y : V) (N : List ((Int × Int) × List (Int × Int))) (a : Int × Int) (fuel : Nat) (res : List ((Int × Int) × Int)), vs = [x, y] ∧ rT (ndT N) x B ∧ R B y (nodeD a) ∧ bfs (nearT N) fuel [(a, 0)] [a] = some res ∧ r = rT (ksD pkey res)
def preFK : List V → Hp → Rl → Prop := fun vs B r => ∃ (x y : V) (N : List (Int × List Int)) (a : Int) (fuel : Nat) (res : List (Int × Int)), vs = [x, y] ∧ rK (ndK N) x B ∧ R B y (.int a) ∧ bfs (nearK N) fuel [(a, 0)] [a] = some res ∧ r = rK (ksD Sum.inl res)
theorem ok_farT {f : Addr} {fd : FuncData} (F : Fun K "_law_far" "_law_far" sFar f fd) : FnOk P w K mg base CX0 1 f fd ["_law_near", "_law_start"] (Pr Pf preFT) := by
  refine F.ok scFr (fun vs H Q E h => ?_) (fun cdv A outer s H vs Q E hr h => ?_)
  · obtain ⟨B, r, e, ⟨x, y, _, _, _, _, rfl, _⟩, _⟩ := h
    rfl
  · obtain ⟨B, r, eb, ⟨x, y, N, a, fuel, res, rfl, hx, hy, hb, rfl⟩, k⟩ := h
    have hu := hu_of hr
    have hu64 := hr.units
    have hu0 := Nat.lt_of_le_of_lt (Nat.le_add_right _ 64) hr.units
    refine ⟨_, pss_cons (ps_par (i := 2) (j := 3) rfl scFr.nd rfl rfl (by decide) rfl rfl (pa_cons (pe_disp1 hu0 (pv 1) pe_int) (pa_cons (pe_lst (pa_cons (pv 1) pa_nil)) pa_nil)) (by rfl))
      (pss_cons (ps_while PassesOwn.never (pt_cmpR (op_neD hu64) (pv 3) (pe_lst pa_nil) (by rfl))
        (pss_cons (ps_set (i := 4) scFr.nd rfl (.inl rfl) (pe_bm PySem.F.plainAttrs_list PySem.F.slot_list_pop PySem.F.type_list_pop mt_popAt (pv 3) (pa_cons pe_int pa_nil)))
        (pss_one (ps_for PassesOwn.never rfl (pi_list (pe_dget hu (pv 0) (pv 4) (fun _ _ => rfl))) (pg_name (i := 5) scFr.nd rfl (.inl rfl))
          (pss_one (ps_if (pt_cmp (pc_dnotin hu (pv 5) (pv 2)))
            (pss_cons (ps_dput hu (pv 2) (pv 5) (pe_op op_add (pe_dget hu (pv 2) (pv 4) (fun _ _ => rfl)) pe_int) rfl)
            (pss_one (ps_expr (pe_bm PySem.F.plainAttrs_list PySem.F.slot_list_append PySem.F.type_list_append mt_append (pv 3) (pa_cons (pv 5) pa_nil))))) pss_nil))))))
      (pss_one (ps_ret (pv 2)))), ?_⟩
    obtain ⟨b1, rfl, hb1⟩ := node_inv hy
    refine fun D hD => ⟨_, rfl, b1, pkey a, rfl, upd_same, by rw [upd_ne (ne_of_none (eb.at hb1) hD)]; exact eb.at hb1, ?_⟩
    rw [upd_upd]
    refine ⟨_, rfl, by show 1 ≤ sizeLine; decide, fun L hL => ⟨_, _, rfl, ?_⟩⟩
    have nD := eb.ne hD
    have tD : Tr Pf B H B (upd H D (.dT [(pkey a, .int 0)])) := .side eb hD
    have nDL : L ≠ D := fun z => by rw [z, upd_same] at hL; cases hL
    have fL : H L = none := by rw [upd_ne nDL] at hL; exact hL
    have nL := eb.ne fL
    have s0 : St2 pkey nodeD (fun ks => HO.dT ks) Pf B H D L B (upd (upd H D (.dT [(pkey a, .int 0)])) L (.lst [V.ref b1])) [(a, 0)] [a] :=
      ⟨tD.mutn fL nL (eb.fresh fL), eb.fresh hD, eb.fresh fL, Ne.symm nDL, by rw [upd_ne (Ne.symm nDL), upd_same]; rfl, _, upd_same, .cons hy .nil⟩
    refine far_loop (K := K) (wi := iList K (tDGet (tVar 0) (tVar 4))) (iF := 2) (iL := 3) (iH := 4) (iN := 5) (mk := fun y1 z1 => [some x, some (.ref b1), some (.ref D), some (.ref L), y1, z1]) (y0 := none) (z0 := none)
      enc_T nD nL hD fL (fun _ _ => rfl) (fun _ _ => rfl) (fun _ _ => rfl) (fun _ _ => rfl) (fun _ _ _ => rfl) (fun _ _ _ => rfl) (fun a ns x z B' hn e' rx => ?_) s0 hb (fun B' H' y1 z1 x1 => ?_)
    · refine itd_list (K := K) (ed_dgetT (p := a) (eg_var rfl (mono_T _ _ _ e' hx)) (fun B2 e2 => eg_var rfl (R.mono e2 _ rx)) ?_)
      have hz := atD_map (kf := pkey) (fun a b => pkey_inj) (fun l : List (Int × Int) => PyData.list (l.map nodeD)) a N
      unfold nearT at hn
      rw [hn] at hz
      exact hz
    · refine ⟨_, rfl, k _ _ H' (x1.tr.take hD x1.hD x1.bD nD) ⟨D, _, rfl, upd_same, kvs_ks _ _ _⟩⟩
theorem ok_farK {f : Addr} {fd : FuncData} (F : Fun K "_law_far" "_law_far" sFar f fd) : FnOk P w K mg base CX0 1 f fd ["_law_near", "_law_start"] (Pr Pf preFK) := by
  refine F.ok scFr (fun vs H Q E h => ?_) (fun cdv A outer s H vs Q E hr h => ?_)
  · obtain ⟨B, r, e, ⟨x, y, _, _, _, _, rfl, _⟩, _⟩ := h
    rfl
  · obtain ⟨B, r, eb, ⟨x, y, N, a, fuel, res, rfl, hx, hy, hb, rfl⟩, k⟩ := h
    have hu := hu_of hr
    have hu64 := hr.units
    have hu0 := Nat.lt_of_le_of_lt (Nat.le_add_right _ 64) hr.units
    refine ⟨_, pss_cons (ps_par (i := 2) (j := 3) rfl scFr.nd rfl rfl (by decide) rfl rfl (pa_cons (pe_disp (pps_cons (pv 1) pe_int pps_nil) (by rfl) (by rfl) (by decide) (by decide)) (pa_cons (pe_lst (pa_cons (pv 1) pa_nil)) pa_nil)) (by rfl))
      (pss_cons (ps_while PassesOwn.never (pt_cmpR (op_neD hu64) (pv 3) (pe_lst pa_nil) (by rfl))
        (pss_cons (ps_set (i := 4) scFr.nd rfl (.inl rfl) (pe_bm PySem.F.plainAttrs_list PySem.F.slot_list_pop PySem.F.type_list_pop mt_popAt (pv 3) (pa_cons pe_int pa_nil)))
        (pss_one (ps_for PassesOwn.never rfl (pi_list (pe_dget hu (pv 0) (pv 4) (fun _ _ => rfl))) (pg_name (i := 5) scFr.nd rfl (.inl rfl))
          (pss_one (ps_if (pt_cmp (pc_dnotin hu (pv 5) (pv 2)))
            (pss_cons (ps_dput hu (pv 2) (pv 5) (pe_op op_add (pe_dget hu (pv 2) (pv 4) (fun _ _ => rfl)) pe_int) rfl)
            (pss_one (ps_expr (pe_bm PySem.F.plainAttrs_list PySem.F.slot_list_append PySem.F.type_list_append mt_append (pv 3) (pa_cons (pv 5) pa_nil))))) pss_nil))))))
      (pss_one (ps_ret (pv 2)))), ?_⟩
    have := R.int_inv hy
    subst this
    refine fun D hD => ⟨_, rfl, upd_same, [((Sum.inl a : L2.Key), V.int 0)], rfl, by show 1 ≤ 15; decide, ?_⟩
    rw [upd_upd]
    refine ⟨_, rfl, by show 1 ≤ sizeLine; decide, fun L hL => ⟨_, _, rfl, ?_⟩⟩
    have nD := eb.ne hD
    have tD : Tr Pf B H B (upd H D (.dK [(Sum.inl a, .int 0)])) := .side eb hD
    have nDL : L ≠ D := fun z => by rw [z, upd_same] at hL; cases hL
    have fL : H L = none := by rw [upd_ne nDL] at hL; exact hL
    have nL := eb.ne fL
    have s0 : St2 (Sum.inl : Int → L2.Key) PyData.int (fun ks => HO.dK ks) Pf B H D L B (upd (upd H D (.dK [(Sum.inl a, .int 0)])) L (.lst [V.int a])) [(a, 0)] [a] :=
      ⟨tD.mutn fL nL (eb.fresh fL), eb.fresh hD, eb.fresh fL, Ne.symm nDL, by rw [upd_ne (Ne.symm nDL), upd_same]; rfl, _, upd_same, .cons hy .nil⟩
    refine far_loop (K := K) (wi := iList K (tDGet (tVar 0) (tVar 4))) (iF := 2) (iL := 3) (iH := 4) (iN := 5) (mk := fun y1 z1 => [some x, some (.int a), some (.ref D), some (.ref L), y1, z1]) (y0 := none) (z0 := none)
      enc_K nD nL hD fL (fun _ _ => rfl) (fun _ _ => rfl) (fun _ _ => rfl) (fun _ _ => rfl) (fun _ _ _ => rfl) (fun _ _ _ => rfl) (fun a ns x z B' hn e' rx => ?_) s0 hb (fun B' H' y1 z1 x1 => ?_)
    · have := R.int_inv rx
      subst this
      refine itd_list (K := K) (ed_dgetK (k := Sum.inl a) (eg_var rfl (mono_K _ _ _ e' hx)) (fun B2 e2 => ev_var rfl) ?_)
      have hz := atD_map (kf := (Sum.inl : Int → L2.Key)) (fun a b => ⟨fun h => Sum.inl.inj h, fun h => by rw [h]⟩) (fun l : List Int => PyData.list (l.map PyData.int)) a N
      unfold nearK at hn
      rw [hn] at hz
      exact hz
    · refine ⟨_, rfl, k _ _ H' (x1.tr.take hD x1.hD x1.bD nD) ⟨D, _, rfl, upd_same, kvs_ks _ _ _⟩⟩
end
end K18

set_option Elab.async false
set_option linter.all false
set_option maxRecDepth 100000
set_option maxHeartbeats 2000000
/-! _law_flat, _law_dice, _law_roll, _law_rounds. -/
namespace K18
open PySem L2
section
variable {Pf : Addr} {P : Program} {w : World} {K : PySem.W.Frag} {mg : Str → Option Value} {base : Heap}
theorem scFl : FnScope ["_law_rows", "_law_found", "_law_row"] ["_law_rows"] (defScope sFlat) := ⟨rfl, rfl, rfl, by decide +kernel, rfl, by decide +kernel, by decide +kernel⟩
def preFl : List V → Hp → Rl → Prop := fun vs B r => ∃ (x : V) (ls : List (List PyData)), vs = [x] ∧ R B x (.list (ls.map .list)) ∧ ls.flatten.length ≤ 10000 ∧ r = rD (.list ls.flatten)
theorem flat_take {ls : List (List PyData)} {i : Nat} {l : List PyData} (h : ls[i]? = some l) : (ls.take (i + 1)).flatten = (ls.take i).flatten ++ l := by
  rw [List.take_add_one, h, List.flatten_append]
  simp
theorem flat_le (ls : List (List PyData)) (i : Nat) : (ls.take i).flatten.length ≤ ls.flatten.length := by
  conv => rhs; rw [← List.take_append_drop i ls, List.flatten_append, List.length_append]
  omega
theorem ok_flat {f : Addr} {fd : FuncData} (F : Fun K "_law_flat" "_law_flat" sFlat f fd) : FnOk P w K mg base CX0 1 f fd ["_law_rows"] (Pr Pf preFl) := by
  refine F.ok scFl (fun vs H Q E h => ?_) (fun cdv A outer s H vs Q E hr h => ?_)
  · obtain ⟨B, r, e, ⟨x, ls, rfl, _⟩, _⟩ := h
    rfl
  · obtain ⟨B, r, eb, ⟨x, ls, rfl, hx, hl, rfl⟩, k⟩ := h
    refine ⟨_, pss_cons (ps_set (i := 1) scFl.nd rfl (.inl rfl) (pe_lst pa_nil))
      (pss_cons (ps_for PassesOwn.never rfl (pi_list (pv 0)) (pg_name (i := 2) scFl.nd rfl (.inl rfl)) (pss_one (ps_set (i := 1) scFl.nd rfl (.inl rfl) (pe_op op_cat (pv 1) (pv 2)))))
      (pss_one (ps_ret (pv 1)))), ?_⟩
    refine q_asgG (B := B) (r := rD (.list [])) (ed_lst (ds := []) ea_nil (by decide)) eb fun v0 B1 H1 t1 r1 => ?_
    refine q_for (B := B1) (itd_list (K := K) (eg_var rfl (R.mono t1.bas _ hx))) t1.sub fun B2 H2 t2 => ?_
    refine ⟨fun i σ' H' => ∃ Bc v y, σ' = [some x, some v, y] ∧ Ex B2 Bc ∧ Tr Pf B H Bc H' ∧ R Bc v (.list (ls.take i).flatten), ⟨B2, v0, none, rfl, Ex.refl _, t1.trans t2, R.mono t2.bas _ r1⟩, fun i σ' H' _ ⟨Bc, _, _, _, h1, h2, _⟩ => h1.trans h2.sub.ex, ?_, ?_⟩
    · rintro i d y σ' H' hd ry ⟨Bc, v, z, rfl, h1, h2, h3⟩
      rw [List.getElem?_map] at hd
      cases hn : ls[i]? with
      | none =>
        rw [hn] at hd
        cases hd
      | some l =>
        rw [hn] at hd
        have hd := Option.some.inj hd
        subst hd
        refine s_asgG (B := Bc) (σ := [some x, some v, some y]) (i := 1) (r := rD (.list (ls.take (i + 1)).flatten)) ?_ h2.sub fun v2 B3 H3 t3 r3 => ⟨B3, v2, some y, rfl, h1.trans t3.bas, h2.trans t3, r3⟩
        rw [flat_take hn]
        refine ed_cat (eg_var rfl h3) (fun B' e' => eg_var rfl (R.mono (h1.trans e') _ ry)) ?_
        rw [← flat_take hn]
        exact Nat.le_trans (flat_le ls _) (by omega)
    · rintro σ' H' ⟨Bc, v, z, rfl, h1, h2, h3⟩
      rw [List.length_map, List.take_of_length_le (Nat.le_refl _)] at h3
      exact ⟨v, rfl, k v Bc H' h2 h3⟩
/-! ### dice -/
def dice3 (z : Int) : List Int := if decide (0 - 10 < z) && decide (z < 10) then [if z < 0 then -z else z, 0, 2] else [z, 1 + z % 1009, if decide (10 ^ (18 : Int).toNat ≤ z) then 1 else 0]
theorem dice3_len (z : Int) : ∃ a b c, dice3 z = [a, b, c] := by
  unfold dice3
  split
  · exact ⟨_, _, _, rfl⟩
  · exact ⟨_, _, _, rfl⟩
theorem scDi : FnScope ["_law_cell"] ["_law_cell"] (defScope sDice) := ⟨rfl, rfl, rfl, by decide +kernel, rfl, by decide +kernel, by decide +kernel⟩
def preDi : List V → Hp → Rl → Prop := fun vs B r => ∃ (z : Int), vs = [.int z] ∧ r = rD (.list ((dice3 z).map .int))
def rInt : List V → Hp → VK → Prop := fun xs H Q => (∃ i, xs = [.int i] ∧ Q (.int i) H) ∨ ∃ k, xs = [.bl k] ∧ Q (.int (if k then 1 else 0)) H
theorem ok_dice {f : Addr} {fd : FuncData} (F : Fun K "_law_dice" "_law_dice" sDice f fd) (b : BI mg) : FnOk P w K mg base CX0 1 f fd ["_law_cell"] (Pr Pf preDi) := by
  refine F.ok scDi (fun vs H Q E h => ?_) (fun cdv A outer s H vs Q E hr h => ?_)
  · obtain ⟨B, r, e, ⟨z, rfl, _⟩, _⟩ := h
    rfl
  · obtain ⟨B, r, eb, ⟨z, rfl, rfl⟩, k⟩ := h
    refine ⟨_, pss_cons (ps_if (pt_chain op_lt op_lt (pe_op op_sub pe_int pe_int) (pv 0) pe_int) (pss_one (ps_ret (pe_lst (pa_cons (pe_callB call_abs (by rfl) b.abs PyProof.Rows.boot_abs (pa_cons (pv 0) pa_nil)) (pa_cons pe_int (pa_cons pe_int pa_nil)))))) pss_nil)
      (pss_one (ps_ret (pe_lst (pa_cons (pv 0) (pa_cons (pe_op op_add pe_int (pe_op op_mod (pe_callTy call_int1 (by rfl) b.int PyProof.Rows.boot_int (pa_cons (pv 0) pa_nil)) pe_int))
        (pa_cons (pe_callTy call_int1 (by rfl) b.int PyProof.Rows.boot_int (pa_cons (pe_cmpR op_ge (pv 0) (pe_op op_pow pe_int pe_int) (nomark _)) pa_nil)) pa_nil)))))), ?_⟩
    refine q_if (B := B) (b := decide (0 - 10 < z) && decide (z < 10)) (et_test (ev_chain (ev_op ev_c ev_c rv_I0) (ev_var rfl) ev_c rfl rfl)) eb (fun hb H1 a1 => ?_) (fun hb H1 a1 => ?_)
    · refine ⟨_, rfl, z, rfl, by show 3 ≤ sizeLine; decide, fun p hp => ?_⟩
      have e1 := eb.ax a1
      exact k _ _ _ ((Tr.step eb a1).trans (.new e1 hp)) (by unfold dice3; rw [hb]; exact .lst upd_same (Rs.ints [_, 0, 2]))
    · refine ⟨_, rfl, _, rfl, .inl ⟨z, rfl, _, _, rfl, rfl, by show (0 : Int) < 1009; decide, _, _, rfl, rfl, ?_⟩⟩
      refine ⟨_, rfl, _, _, rfl, rfl, ⟨by decide, by decide, by decide⟩, _, _, rfl, rfl, .inr ⟨_, rfl, by show 3 ≤ sizeLine; decide, fun p hp => ?_⟩⟩
      have e1 := eb.ax a1
      exact k _ _ _ ((Tr.step eb a1).trans (.new e1 hp)) (by unfold dice3; rw [hb]; exact .lst upd_same (Rs.ints [_, _, _]))
/-! ### roll -/
def dl (a b c : Int) : HO := .lst [.int a, .int b, .int c]
def spRoll : Sp := fun vs H Q _ => ∃ (p : Addr) (m a b c : Int), vs = [.ref p, .int m] ∧ H p = some (dl a b c) ∧ 0 < m ∧ m < 1000 ∧ ∀ i a' b' c', 0 ≤ i → i < m → Q (.int i) (upd H p (dl a' b' c'))
theorem scRo : FnScope ["_law_dice_here", "_law_many", "_law_found"] ["_law_dice_here", "_law_many"] (defScope sRoll) := ⟨rfl, rfl, rfl, by decide +kernel, rfl, by decide +kernel, by decide +kernel⟩
theorem ok_roll {f : Addr} {fd : FuncData} (F : Fun K "_law_roll" "_law_roll" sRoll f fd) (b : BI mg) : FnOk P w K mg base CX0 1 f fd ["_law_dice_here", "_law_many"] spRoll := by
  refine F.ok scRo (fun vs H Q E h => ?_) (fun cdv A outer s H vs Q E hr h => ?_)
  · obtain ⟨p, m, a, b, c, rfl, _⟩ := h
    rfl
  · obtain ⟨p, m, x, y, z, rfl, hp, m0, m1, k⟩ := h
    refine ⟨_, pss_cons (ps_if (pw_or (pt_cmpR op_eq (pe_ix ix_list (pv 0) pe_int (fun _ _ => rfl)) pe_int (nomark _)) (pw_or1 (pw_and (pt_cmpR op_eq (pe_ix ix_list (pv 0) pe_int (fun _ _ => rfl)) pe_int (nomark _)) (pw_and1 (pt_cmpR op_gt (pe_ix ix_list (pv 0) pe_int (fun _ _ => rfl)) pe_int (nomark _)))).pt)).pt
        (pss_cons (ps_set (i := 2) scRo.nd rfl (.inl rfl) (pe_op op_mod (pe_callTy call_int1 (by rfl) b.int PyProof.Rows.boot_int (pa_cons (pe_ix ix_list (pv 0) pe_int (fun _ _ => rfl)) pa_nil)) (pv 1)))
        (pss_cons (ps_asg (pe_op op_fdiv (pe_ix ix_list (pv 0) pe_int (fun _ _ => rfl)) (pv 1)) (pg_sub (pv 0) pe_int set_list) rfl)
        (pss_one (ps_ret (pv 2))))) pss_nil)
      (pss_cons (ps_asg pe_int (pg_sub (pv 0) pe_int set_list) rfl)
      (pss_cons (ps_asg (pe_op op_mod (pe_callTy call_int1 (by rfl) b.int PyProof.Rows.boot_int (pa_cons (pe_op op_add (pe_op op_add (pe_op op_mul (pe_ix ix_list (pv 0) pe_int (fun _ _ => rfl)) pe_int) (pe_op op_mul (pe_ix ix_list (pv 0) pe_int (fun _ _ => rfl)) pe_int)) pe_int) pa_nil)) pe_int) (pg_sub (pv 0) pe_int set_list) rfl)
      (pss_cons (ps_asg (pe_op op_add (pe_ix ix_list (pv 0) pe_int (fun _ _ => rfl)) pe_int) (pg_sub (pv 0) pe_int set_list) rfl)
      (pss_one (ps_ret (pe_op op_mod (pe_callTy call_int1 (by rfl) b.int PyProof.Rows.boot_int (pa_cons (pe_op op_add (pe_op op_fdiv (pe_ix ix_list (pv 0) pe_int (fun _ _ => rfl)) pe_int) (pe_ix ix_list (pv 0) pe_int (fun _ _ => rfl))) pa_nil)) (pv 1))))))), ?_⟩
    have mm : ∀ i : Int, 0 ≤ i % m ∧ i % m < m := fun i => ⟨Int.emod_nonneg _ (by omega), Int.emod_lt_of_pos _ m0⟩
    have A1 : ∀ {D : Ends}, D.rt = Q → tSeq (tAsg (tOp (rI (fun _ j => 0 < j) fun i j => .int (i % j)) (tCB rInt (tCons (tOp (rIxL K) (tVar 0) (tC (.int 0))) tNil)) (tVar 1)) (gName 2)) (tSeq (tAsg (tOp (rI CDiv fun i j => .int (i / j)) (tOp (rIxL K) (tVar 0) (tC (.int 0))) (tVar 1)) (gSub (tVar 0) (tC (.int 0)) rSetL)) (tRet (tVar 2))) D [some (.ref p), some (.int m), none] H := fun {D} hD => by
      refine ⟨_, rfl, p, _, 0, .int x, rfl, rfl, SqL.of hp, rfl, .inl ⟨x, rfl, _, rfl, _, _, rfl, rfl, m0, ?_⟩⟩
      refine ⟨_, rfl, p, _, 0, .int x, rfl, rfl, SqL.of hp, rfl, _, rfl, _, _, rfl, rfl, ⟨m0, by omega⟩, _, rfl, p, _, 0, 0, rfl, rfl, hp, rfl, _, rfl, ?_⟩
      show D.rt _ _
      rw [hD]
      exact k (x % m) (x / m) y z (mm x).1 (mm x).2
    have A2 : ∀ {D : Ends}, D.rt = Q → tSeq (tAsg (tC (.int 0)) (gSub (tVar 0) (tC (.int 2)) rSetL)) (tSeq (tAsg (tOp (rI (fun _ j => 0 < j) fun i j => .int (i % j)) (tCB rInt (tCons (tOp (rI0 fun i j => .int (i + j)) (tOp (rI0 fun i j => .int (i + j)) (tOp (rI CMul fun i j => .int (i * j)) (tOp (rIxL K) (tVar 0) (tC (.int 0))) (tC (.int 48271))) (tOp (rI CMul fun i j => .int (i * j)) (tOp (rIxL K) (tVar 0) (tC (.int 1))) (tC (.int 69621)))) (tC (.int 11))) tNil)) (tC (.int 2147483647))) (gSub (tVar 0) (tC (.int 0)) rSetL))
        (tSeq (tAsg (tOp (rI0 fun i j => .int (i + j)) (tOp (rIxL K) (tVar 0) (tC (.int 1))) (tC (.int 1))) (gSub (tVar 0) (tC (.int 1)) rSetL))
        (tRet (tOp (rI (fun _ j => 0 < j) fun i j => .int (i % j)) (tCB rInt (tCons (tOp (rI0 fun i j => .int (i + j)) (tOp (rI CDiv fun i j => .int (i / j)) (tOp (rIxL K) (tVar 0) (tC (.int 0))) (tC (.int 7))) (tOp (rIxL K) (tVar 0) (tC (.int 0)))) tNil)) (tVar 1))))) D [some (.ref p), some (.int m), none] H := fun {D} hD => by
      refine ⟨_, rfl, p, _, 2, 2, rfl, rfl, hp, rfl, ?_⟩
      refine ⟨_, rfl, p, _, 0, .int x, rfl, rfl, SqL.of upd_same, rfl, _, _, rfl, rfl, .inr ⟨by decide, by decide⟩, _, rfl, p, _, 1, .int y, rfl, rfl, SqL.of upd_same, rfl, _, _, rfl, rfl, .inr ⟨by decide, by decide⟩, _, _, rfl, rfl, _, _, rfl, rfl, .inl ⟨_, rfl, _, _, rfl, rfl, by show (0 : Int) < 2147483647; decide, ?_⟩⟩
      refine ⟨_, rfl, p, _, 0, 0, rfl, rfl, upd_same, rfl, ?_⟩
      refine ⟨_, rfl, p, _, 1, .int y, rfl, rfl, SqL.of upd_same, rfl, _, _, rfl, rfl, _, rfl, p, _, 1, 1, rfl, rfl, upd_same, rfl, ?_⟩
      refine ⟨_, rfl, p, _, 0, _, rfl, rfl, SqL.of upd_same, rfl, _, _, rfl, rfl, ⟨by decide, by decide⟩, _, rfl, p, _, 0, _, rfl, rfl, SqL.of upd_same, rfl, _, _, rfl, rfl, .inl ⟨_, rfl, _, rfl, _, _, rfl, rfl, m0, ?_⟩⟩
      rw [upd_upd, upd_upd, hD]
      exact k _ _ _ 0 (mm _).1 (mm _).2
    refine ⟨_, rfl, p, _, 2, .int z, rfl, rfl, SqL.of hp, rfl, rfl, _, rfl, ?_⟩
    refine ite2 (fun _ => A1 rfl) (fun _ => ?_)
    refine ⟨_, rfl, p, _, 2, .int z, rfl, rfl, SqL.of hp, rfl, rfl, _, rfl, ?_⟩
    refine ite2 (fun _ => ?_) (fun _ => A2 rfl)
    refine ⟨_, rfl, p, _, 0, .int x, rfl, rfl, SqL.of hp, rfl, _, _, rfl, rfl, _, rfl, ?_⟩
    exact ite2 (fun _ => A1 rfl) (fun _ => A2 rfl)
/-! ### rounds -/
theorem cut_one (ns : List Int) : cutV (ns.map V.int) none (some 1) = (ns.take 1).map V.int := by
  cases ns with
  | nil => rfl
  | cons a l =>
    unfold cutV
    rw [show HT.sIx ((a :: l).map V.int).length 0 none = 0 from rfl, show HT.sIx ((a :: l).map V.int).length ((a :: l).map V.int).length (some 1) = min 1 ((a :: l).map V.int).length from HT.sIx_nat _ _ 1]
    rw [show min 1 ((a :: l).map V.int).length - 0 = 1 from by rw [List.length_map, List.length_cons]; omega]
    rfl
/-- x = e under a test, or x as it was -/
theorem q_ifb {σ : L2.St} {B H : Hp} {D : Ends} {tt : TT} {te : TE} {tz : TS} {b : Bool} {i : Nat} {r : Rl} (h : EvT Pf tt σ B b) (he : b = true → Eg Pf te σ B r) (hn : b = false → ∃ v, σ = σ.set i (some v) ∧ r v B) (e : Sb Pf B H) (k : ∀ v B' H', Tr Pf B H B' H' → r v B' → tz D (σ.set i (some v)) H') :
    tSeq (tIfS tt (tAsg te (gName i)) tNext) tz D σ H := q_if h e (fun hb H1 a1 => he hb H1 (e.ax a1) _ fun v B' H' t hr => k v B' H' ((Tr.step e a1).trans t) hr) (fun hb H1 a1 => by
    obtain ⟨v, hv, hr⟩ := hn hb
    have z := k v B H1 (.step e a1) hr
    rw [← hv] at z
    exact z)
def cellsOf (ns : List Int) : List Int := if decide (ns.take 1 = []) then [0] else ns.take 1
theorem cells_one (ns : List Int) : ∃ z, cellsOf ns = [z] := by
  cases ns with
  | nil => exact ⟨0, rfl⟩
  | cons a l => exact ⟨a, rfl⟩
def spRounds (K : PySem.W.Frag) (Pf : Addr) : Sp := fun vs H Q _ => ∃ (a : Addr) (ns : List Int) (B : Hp), vs = [.ref a, .int 1] ∧ SqL K H a (ns.map V.int) ∧ ns.length ≤ 1000 ∧ Sb Pf B H ∧ ∀ v B' H' x y z, Tr Pf B H B' H' → R B' v (.list [.list [.int x, .int y, .int z]]) → Q v H'
theorem scRu : FnScope ["_law_script", "_law_most", "_law_cells", "_law_cell"] ["_law_script", "_law_most"] (defScope sRounds) := ⟨rfl, rfl, rfl, by decide +kernel, rfl, by decide +kernel, by decide +kernel⟩
theorem ok_rounds {f fD : Addr} {fd fdD : FuncData} (F : Fun K "_law_rounds" "_law_rounds" sRounds f fd) (mD : mg "_law_dice" = some (.ref fD)) (kD : PySem.W.keepIn K (.ref fD) = true) (FD : FnOk P w K mg base CX0 1 fD fdD ["_law_cell"] (Pr Pf preDi)) (bD : Binds K fdD ["_law_cell"] []) :
    FnOk P w K mg base CX0 2 f fd ["_law_script", "_law_most"] (spRounds K Pf) := by
  refine F.ok scRu (fun vs H Q E h => ?_) (fun cdv A outer s H vs Q E hr h => ?_)
  · obtain ⟨a, ns, B, rfl, _⟩ := h
    rfl
  · obtain ⟨a, ns, B, rfl, hq, hl, eb, k⟩ := h
    have hr1 : Room 1 _ := hr
    have hu64 := hr.units
    refine ⟨_, pss_cons (ps_set (i := 2) scRu.nd rfl (.inl rfl) (pe_slice sl_list (pv 0) po_none (po_some (pv 1))))
      (pss_cons (ps_if (pt_cmpR (op_eqD hu64) (pv 2) (pe_lst pa_nil) (by rfl)) (pss_one (ps_set (i := 2) scRu.nd rfl (.inl rfl) (pe_lst (pa_cons pe_int pa_nil)))) pss_nil)
      (pss_one (ps_ret (pe_lc (own := [("_law_cell", 3)]) (g := gName 3) (tt := tYes) (te := tCall (Pr Pf preDi) [] E00 (tCons (tVar 3) tNil)) rfl scRu.nd (pi_list (pv 2)) (blkOk_by (N := ["_law_script", "_law_most", "_law_cells", "_law_cell"]) (sc := defScope sRounds) (by decide +kernel))
        (fun _ _ _ _ _ => pg_name (i := 3) scRu.nd rfl (Or.inl rfl)) (fun _ _ _ _ _ => pts_nil) (fun _ _ _ _ _ => pe_call FD hr1 (by rfl) mD kD bD .nil pass0 (pa_cons (pv 3) pa_nil)))))), ?_⟩
    refine ⟨_, rfl, _, rfl, 1, rfl, a, _, rfl, hq, fun p hp => ?_⟩
    have ec : cutV (ns.map V.int) none (some 1) = (ns.take 1).map V.int := cut_one ns
    rw [ec]
    have t1 : Tr Pf B H (upd B p (.lst ((ns.take 1).map V.int))) (upd H p (.lst ((ns.take 1).map V.int))) := .new eb hp
    refine q_ifb (B := upd B p (.lst ((ns.take 1).map V.int))) (r := rD (.list ((cellsOf ns).map .int))) (i := 2) (σ := [some (.ref a), some (.int 1), some (.ref p), none]) (b := decide (ns.take 1 = []))
      (et_is (et_eqD (K := K) (d := .list ((ns.take 1).map .int)) (e := .list ([] : List PyData)) (eg_var rfl (.lst upd_same (Rs.ints _))) (fun B2 e2 => ed_lst (ds := []) ea_nil (by decide)) ((shp_map (k := 0) shp_int _).ok (by decide)) ((shp_list (k := 0) fun a ha => absurd ha List.not_mem_nil).ok (by decide))) (inj_list inj_int (ns.take 1) []))
      (fun hb => by
        have : cellsOf ns = [0] := by unfold cellsOf; rw [hb]; rfl
        rw [this]
        exact ed_lst (ds := [.int 0]) (ea_cons mono_D (eg_c (.int 0)) fun _ _ => ea_nil) (by show 1 ≤ 100000; decide))
      (fun hb => ⟨.ref p, rfl, by
        have : cellsOf ns = ns.take 1 := by unfold cellsOf; rw [hb]; rfl
        rw [this]
        exact .lst upd_same (Rs.ints _)⟩) t1.sub fun v B2 H2 t2 r2 => ?_
    have k1 := ed_lc1 (Pf := Pf) (B := B2) (σ := [some (.ref a), some (.int 1), some v, none]) (j := 3) (vs := [3]) (wi := iList K (tVar 2)) (te := tCall (Pr Pf preDi) [] E00 (tCons (tVar 3) tNil)) (ds := (cellsOf ns).map PyData.int) (fun d => .list ((dice3 (intOf d)).map .int))
      (itd_list (K := K) (eg_var rfl r2)) (by obtain ⟨z, hz⟩ := cells_one ns; rw [hz]; show 1 ≤ 50000; decide) (fun x => rfl) fun d hd y B3 e3 ry => by
        obtain ⟨z, _, rfl⟩ := List.mem_map.mp hd
        refine eg_call (rs := [rD (.int z)]) (ea_cons mono_D (eg_var rfl ry) fun _ _ => ea_nil) fun vs B4 e4 hv => ?_
        match vs, hv with
        | [c], ⟨h1, _⟩ =>
          have := R.int_inv h1
          subst this
          exact ⟨z, rfl, rfl⟩
    refine k1 H2 t2.sub _ fun v3 B3 H3 t3 r3 => ?_
    obtain ⟨z, hz⟩ := cells_one ns
    obtain ⟨x1, x2, x3, hx⟩ := dice3_len z
    refine k v3 B3 H3 x1 x2 x3 ((t1.trans t2).trans t3) ?_
    rw [hz] at r3
    have r3 : R B3 v3 (.list [.list ((dice3 z).map .int)]) := r3
    rw [hx] at r3
    exact r3
end
end K18

set_option Elab.async false
set_option linter.all false
set_option maxRecDepth 100000
set_option maxHeartbeats 4000000
/-! The law's text: context, slots, what it calls. -/
namespace K18
open PySem L2
def forBody : Stmt → List Stmt
  | .For _ _ b _ _ => b
  | _ => []
def lawB (i : Nat) : Stmt := (forBody ((defBody sLaw).getD 0 (.Pass ⟨0, 0, 0, 0⟩))).getD i (.Pass ⟨0, 0, 0, 0⟩)
abbrev lawN : List Str := ["_law_script", "_law_dice_here", "_law_wide", "_law_high", "_law_ends", "_law_grid", "_law_row", "_law_column", "_law_nodes", "_law_near", "_law_around", "_law_one", "_law_here", "_law_far_here", "_law_side", "_law_ways", "_law_cube", "_law_order", "_law_many", "_law_links",
  "_law_a", "_law_b", "_law_node", "_law_other", "_law_part", "_law_k"]
theorem scLaw : FnScope lawN ["_law_script"] (defScope sLaw) := ⟨rfl, rfl, rfl, by decide +kernel, rfl, by decide +kernel, by decide +kernel⟩
abbrev LX (P : Program) (w : World) (K : PySem.W.Frag) (mg : Str → Option Value) (base : Heap) (f c : Addr) (A : Around) (outer : List Env) (s : Shared) (H : Hp) (E : XK) : Cx :=
  (cxOf CX0 P w K mg base lawN "law" (defScope sLaw) f (.ref c) A outer s H E).nox
abbrev Ls (s d w h e g r c n nr ar o hr fh sd wy cb od mn lk a b nd ot pt k : Option V) : L2.St := [s, d, w, h, e, g, r, c, n, nr, ar, o, hr, fh, sd, wy, cb, od, mn, lk, a, b, nd, ot, pt, k]
theorem pass00 {P : Program} {w : World} {X : Cx} : Passes (L2.CX P w) X E00 := fun _ _ _ _ _ _ _ h => by
  obtain ⟨_, _, _, _, _, _, _, _, _, _, _, _, z⟩ := h
  exact z.elim
/-- what the law calls -/
structure LT (P : Program) (w : World) (K : PySem.W.Frag) (mg : Str → Option Value) (base : Heap) (Pf : Addr) where
  (CG CC CE fGI fGN fGS fGR fGL fGF fCI fCN fCR fCF fRoll fFlat fFar fRounds fW fSB fK fGy : Addr)
  (dGI dGN dGS dGR dGL dGF dCI dCN dCR dCF dRoll dFlat dFar dRounds dW dSB dK dGy : FuncData)
  b : BI mg
  G : GT K CG
  C : CT K CC
  gG : mg "Grid" = some (.ref CG)
  gC : mg "Cube" = some (.ref CC)
  MG : Mk K CG fGI
  MC : Mk K CC fCI
  FGI : FnOk P w K mg base (L2.CX P w) 1 fGI dGI ["self", "wide", "high", "round_ends"] (spGI CG CE)
  bGI : Binds K dGI ["self", "wide", "high", "round_ends"] []
  FCI : FnOk P w K mg base (L2.CX P w) 1 fCI dCI ["self", "ways"] (spCI CC CE)
  bCI : Binds K dCI ["self", "ways"] []
  mGN : Meth K CG "nodes" fGN
  FGN : FnOk P w K mg base CX0 1 fGN dGN ["self"] (Pr Pf (preGN CG))
  bGN : Binds K dGN ["self"] []
  mGS : Meth K CG "step" fGS
  FGS : FnOk P w K mg base CX0 1 fGS dGS ["self", "node", "way"] (Pr Pf (preGS CG))
  bGS : Binds K dGS ["self", "node", "way"] []
  mGR : Meth K CG "near" fGR
  FGR : FnOk P w K mg base CX0 2 fGR dGR ["self", "node"] (Pr Pf (preGR CG))
  bGR : Binds K dGR ["self", "node"] []
  mGL : Meth K CG "links" fGL
  FGL : FnOk P w K mg base CX0 3 fGL dGL ["self"] (Pr Pf (preGL CG))
  bGL : Binds K dGL ["self"] []
  mGF : Meth K CG "far" fGF
  FGF : FnOk P w K mg base CX0 1 fGF dGF ["self", "one", "other"] (Pr Pf (preGF CG))
  bGF : Binds K dGF ["self", "one", "other"] []
  mCN : Meth K CC "nodes" fCN
  FCN : FnOk P w K mg base CX0 2 fCN dCN ["self"] (Pr Pf (preCN CC))
  bCN : Binds K dCN ["self"] []
  mCR : Meth K CC "near" fCR
  FCR : FnOk P w K mg base CX0 3 fCR dCR ["self", "node"] (Pr Pf (preCR CC))
  bCR : Binds K dCR ["self", "node"] []
  mCF : Meth K CC "far" fCF
  FCF : FnOk P w K mg base CX0 2 fCF dCF ["self", "one", "other"] (Pr Pf (preCF CC))
  bCF : Binds K dCF ["self", "one", "other"] []
  gRoll : mg "_law_roll" = some (.ref fRoll)
  kRoll : PySem.W.keepIn K (.ref fRoll) = true
  FRoll : FnOk P w K mg base CX0 1 fRoll dRoll ["_law_dice_here", "_law_many"] spRoll
  bRoll : Binds K dRoll ["_law_dice_here", "_law_many"] []
  gFlat : mg "_law_flat" = some (.ref fFlat)
  kFlat : PySem.W.keepIn K (.ref fFlat) = true
  FFlat : FnOk P w K mg base CX0 1 fFlat dFlat ["_law_rows"] (Pr Pf preFl)
  bFlat : Binds K dFlat ["_law_rows"] []
  gFar : mg "_law_far" = some (.ref fFar)
  kFar : PySem.W.keepIn K (.ref fFar) = true
  FFarT : FnOk P w K mg base CX0 1 fFar dFar ["_law_near", "_law_start"] (Pr Pf preFT)
  FFarK : FnOk P w K mg base CX0 1 fFar dFar ["_law_near", "_law_start"] (Pr Pf preFK)
  bFar : Binds K dFar ["_law_near", "_law_start"] []
  gRounds : mg "_law_rounds" = some (.ref fRounds)
  kRounds : PySem.W.keepIn K (.ref fRounds) = true
  FRounds : FnOk P w K mg base CX0 2 fRounds dRounds ["_law_script", "_law_most"] (spRounds K Pf)
  bRounds : Binds K dRounds ["_law_script", "_law_most"] []
  gW : mg "widest" = some (.ref fW)
  kW : PySem.W.keepIn K (.ref fW) = true
  FWG : FnOk P w K mg base CX0 3 fW dW ["shape"] (Pr Pf (preW CG (preGN CG) (preGF CG)))
  FWC : FnOk P w K mg base CX0 3 fW dW ["shape"] (Pr Pf (preW CC (preCN CC) (preCF CC)))
  bW : Binds K dW ["shape"] []
  gSB : mg "steps_between" = some (.ref fSB)
  kSB : PySem.W.keepIn K (.ref fSB) = true
  FSB : FnOk P w K mg base CX0 3 fSB dSB ["shape", "one", "other"] (Pr Pf (preSB CG))
  bSB : Binds K dSB ["shape", "one", "other"] []
  gK : mg "cut_links" = some (.ref fK)
  kK : PySem.W.keepIn K (.ref fK) = true
  FK : FnOk P w K mg base CX0 4 fK dK ["shape", "side"] (Pr Pf (preK CG))
  bK : Binds K dK ["shape", "side"] []
  gGy : mg "gray" = some (.ref fGy)
  kGy : PySem.W.keepIn K (.ref fGy) = true
  FGy : FnOk P w K mg base CX0 2 fGy dGy ["ways"] (Pr Pf preGy)
  bGy : Binds K dGy ["ways"] []
section
variable {Pf : Addr} {P : Program} {w : World} {K : PySem.W.Frag} {mg : Str → Option Value} {base : Heap} {f c : Addr} {A : Around} {outer : List Env} {s : Shared} {H0 : Hp} {E : XK}
abbrev tRoll (m : TE) : TE := tCall spRoll [] E00 (tCons (tVar 1) (tCons m tNil))
/-- grid = Grid(wide, high, ends) -/
theorem ps1 (T : LT P w K mg base Pf) (hr : Room 5 (LX P w K mg base f c A outer s H0 E).A) : PS (LX P w K mg base f c A outer s H0 E) (lawB 1) (tAsg (tMake T.CG (spGI T.CG T.CE) [] E00 (tCons (tVar 2) (tCons (tVar 3) (tCons (tVar 4) tNil)))) (gName 5)) :=
  ps_set (i := 5) scLaw.nd rfl (.inr rfl) (pe_make T.MG T.FGI (hr.mono (by decide)) (by rfl) T.gG T.bGI .nil pass00 (pa_cons (pv 2) (pa_cons (pv 3) (pa_cons (pv 4) pa_nil))))
/-- nodes = _law_flat([[(column, row) for column in range(wide)] for row in range(high)]) -/
abbrev tL2 : TE := tCall (Pr Pf preFl) [] E00 (tCons (tLc (iRng1 (tCons (tVar 3) tNil)) (gName 6) tYes (tLc (iRng1 (tCons (tVar 2) tNil)) (gName 7) tYes (tTup (tCons (tVar 7) (tCons (tVar 6) tNil))) [7]) [6]) tNil)
theorem ps2 (T : LT P w K mg base Pf) (hr : Room 5 (LX P w K mg base f c A outer s H0 E).A) : PS (LX P w K mg base f c A outer s H0 E) (lawB 2) (tAsg (tL2 (Pf := Pf)) (gName 8)) :=
  ps_set (i := 8) scLaw.nd rfl (.inr rfl) (pe_call T.FFlat (hr.mono (by decide)) (by rfl) T.gFlat T.kFlat T.bFlat .nil pass0 (pa_cons
    (pe_lc (own := [("_law_row", 6)]) (g := gName 6) (tt := tYes) (te := tLc (iRng1 (tCons (tVar 2) tNil)) (gName 7) tYes (tTup (tCons (tVar 7) (tCons (tVar 6) tNil))) [7]) rfl scLaw.nd (pi_range1 (by rfl) T.b.range (pa_cons (pv 3) pa_nil)) (blkOk_by (N := lawN) (sc := defScope sLaw) (by decide +kernel))
      (fun _ _ _ _ _ => pg_name (i := 6) scLaw.nd rfl (Or.inr rfl)) (fun _ _ _ _ _ => pts_nil)
      (fun _ _ _ _ _ => pe_lc (own := [("_law_column", 7)]) (g := gName 7) (tt := tYes) rfl scLaw.nd (pi_range1 (by rfl) T.b.range (pa_cons (pv 2) pa_nil)) (blkOk_by (by kernel_rfl))
        (fun _ _ _ _ _ => pg_name (i := 7) scLaw.nd rfl (Or.inl rfl)) (fun _ _ _ _ _ => pts_nil) (fun _ _ _ _ _ => pe_tup (pa_cons (pv 7) (pa_cons (pv 6) pa_nil))))) pa_nil))
/-- near = {} -/
theorem ps3 : PS (LX P w K mg base f c A outer s H0 E) (lawB 3) (tAsg tDNewT (gName 9)) := ps_set (i := 9) scLaw.nd rfl (.inr rfl) pe_dnewT
end
end K18

set_option Elab.async false
set_option linter.all false
set_option maxRecDepth 100000
set_option maxHeartbeats 4000000
/-! The law's statements as readings, the grid's part. -/
namespace K18
open PySem L2
section
variable {Pf : Addr} {P : Program} {w : World} {K : PySem.W.Frag} {mg : Str → Option Value} {base : Heap} {f c : Addr} {A : Around} {outer : List Env} {s : Shared} {H0 : Hp} {E : XK}
abbrev tAdd (a b : TE) : TE := tOp (rI0 fun i j => .int (i + j)) a b
abbrev tSub (a b : TE) : TE := tOp (rI0 fun i j => .int (i - j)) a b
abbrev tMod (a b : TE) : TE := tOp (rI (fun _ j => 0 < j) fun i j => .int (i % j)) a b
abbrev tI (i : Int) : TE := tC (.int i)
abbrev tPair (a b : TE) : TE := tTup (tCons a (tCons b tNil))
abbrev tNeD (K : PySem.W.Frag) (a b : TE) : TT := tTest (tOp (rNeD K) a b)
theorem ps0 (T : LT P w K mg base Pf) (hr : Room 5 (LX P w K mg base f c A outer s H0 E).A) : PS (LX P w K mg base f c A outer s H0 E) (lawB 0)
    (tAsg (tTup (tCons (tAdd (tI 1) (tRoll (tI 4))) (tCons (tAdd (tI 1) (tRoll (tI 4))) (tCons (tOp rEq (tRoll (tI 2)) (tI 1)) tNil)))) (gTup K 3 (gCons (gName 2) (gCons (gName 3) (gCons (gName 4) gNil))))) :=
  ps_asg (pe_tup (pa_cons (pe_op op_add pe_int (pe_call T.FRoll (hr.mono (by decide)) (by rfl) T.gRoll T.kRoll T.bRoll .nil pass0 (pa_cons (pv 1) (pa_cons pe_int pa_nil))))
    (pa_cons (pe_op op_add pe_int (pe_call T.FRoll (hr.mono (by decide)) (by rfl) T.gRoll T.kRoll T.bRoll .nil pass0 (pa_cons (pv 1) (pa_cons pe_int pa_nil))))
    (pa_cons (pe_cmpR op_eq (pe_call T.FRoll (hr.mono (by decide)) (by rfl) T.gRoll T.kRoll T.bRoll .nil pass0 (pa_cons (pv 1) (pa_cons pe_int pa_nil))) pe_int (nomark _)) pa_nil))))
    (pg_tup rfl (pgs_cons (pg_name (i := 2) scLaw.nd rfl (.inr rfl)) (pgs_cons (pg_name (i := 3) scLaw.nd rfl (.inr rfl)) (pgs_cons (pg_name (i := 4) scLaw.nd rfl (.inl rfl)) pgs_nil)))) rfl
abbrev tAr1 : TE := tLst (tCons (tPair (tAdd (tVar 7) (tI 1)) (tVar 6)) (tCons (tPair (tSub (tVar 7) (tI 1)) (tVar 6)) (tCons (tPair (tVar 7) (tAdd (tVar 6) (tI 1))) (tCons (tPair (tVar 7) (tSub (tVar 6) (tI 1))) tNil))))
abbrev tAr2 (K : PySem.W.Frag) : TE := tIf (tB (tVar 4)) (tLc (iList K (tVar 10)) (gTup K 2 (gCons (gName 20) (gCons (gName 21) gNil))) tYes (tPair (tMod (tVar 20) (tVar 2)) (tMod (tVar 21) (tVar 3))) [20, 21])
  (tLc (iList K (tVar 10)) (gName 11) (tTest (tOp (rInD K) (tVar 11) (tVar 8))) (tVar 11) [11])
abbrev tNr (K : PySem.W.Frag) : TE := tCB rSortT (tCons (tCB (rDictPT K) (tCons (tLc (iList K (tVar 10)) (gName 11) (tNeD K (tVar 11) (tPair (tVar 7) (tVar 6))) (tPair (tVar 11) (tI 1)) [11]) tNil)) tNil)
theorem ps4 (T : LT P w K mg base Pf) (hr : Room 5 (LX P w K mg base f c A outer s H0 E).A) (hu65 : (LX P w K mg base f c A outer s H0 E).A.units + 65 < cLine) : PS (LX P w K mg base f c A outer s H0 E) (lawB 4)
    (tFor (iList K (tVar 8)) (gTup K 2 (gCons (gName 7) (gCons (gName 6) gNil))) (tSeq (tAsg tAr1 (gName 10)) (tSeq (tAsg (tAr2 K) (gName 10)) (sDPut (tVar 9) (tPair (tVar 7) (tVar 6)) (tNr K))))) :=
  ps_for PassesOwn.never rfl (pi_list (pv 8)) (pg_tup rfl (pgs_cons (pg_name (i := 7) scLaw.nd rfl (.inr rfl)) (pgs_cons (pg_name (i := 6) scLaw.nd rfl (.inr rfl)) pgs_nil)))
    (pss_cons (ps_set (i := 10) scLaw.nd rfl (.inl rfl) (pe_lst (pa_cons (pe_tup (pa_cons (pe_op op_add (pv 7) pe_int) (pa_cons (pv 6) pa_nil))) (pa_cons (pe_tup (pa_cons (pe_op op_sub (pv 7) pe_int) (pa_cons (pv 6) pa_nil)))
      (pa_cons (pe_tup (pa_cons (pv 7) (pa_cons (pe_op op_add (pv 6) pe_int) pa_nil))) (pa_cons (pe_tup (pa_cons (pv 7) (pa_cons (pe_op op_sub (pv 6) pe_int) pa_nil))) pa_nil))))))
    (pss_cons (ps_set (i := 10) scLaw.nd rfl (.inl rfl) (pe_ifExp (pt_val (pv 4))
        (pe_lc (own := [("_law_a", 20), ("_law_b", 21)]) (g := gTup K 2 (gCons (gName 20) (gCons (gName 21) gNil))) (tt := tYes) rfl scLaw.nd (pi_list (pv 10)) (blkOk_by (N := lawN) (sc := defScope sLaw) (by decide +kernel))
          (fun _ _ _ _ _ => pg_tup rfl (pgs_cons (pg_name (i := 20) scLaw.nd rfl (.inl rfl)) (pgs_cons (pg_name (i := 21) scLaw.nd rfl (.inl rfl)) pgs_nil))) (fun _ _ _ _ _ => pts_nil)
          (fun _ _ _ _ _ => pe_tup (pa_cons (pe_op op_mod (pv 20) (pv 2)) (pa_cons (pe_op op_mod (pv 21) (pv 3)) pa_nil))))
        (pe_lc (own := [("_law_one", 11)]) (g := gName 11) (tt := tTest (tOp (rInD K) (tVar 11) (tVar 8))) rfl scLaw.nd (pi_list (pv 10)) (blkOk_by (N := lawN) (sc := defScope sLaw) (by decide +kernel))
          (fun _ _ _ _ _ => pg_name (i := 11) scLaw.nd rfl (.inl rfl)) (fun _ _ _ _ _ => pts_one (pt_cmpR (op_inD hu65) (pv 11) (pv 8) (by rfl))) (fun _ _ _ _ _ => pv 11))))
    (pss_one (ps_dput (hu_of hr) (pv 9) (pe_tup (pa_cons (pv 7) (pa_cons (pv 6) pa_nil))) (pe_callB (call_sortedT rfl) (by rfl) T.b.sorted PyProof.Rows.boot_sorted (pa_cons (pe_callTy (call_dictPT rfl (Nat.lt_of_le_of_lt (Nat.add_le_add_left (by decide : 2 ≤ 64) _) hr.units)) (by rfl) T.b.dict PyProof.Rows.boot_dict (pa_cons
        (pe_lc (own := [("_law_one", 11)]) (g := gName 11) (tt := tNeD K (tVar 11) (tPair (tVar 7) (tVar 6))) rfl scLaw.nd (pi_list (pv 10)) (blkOk_by (N := lawN) (sc := defScope sLaw) (by decide +kernel))
          (fun _ _ _ _ _ => pg_name (i := 11) scLaw.nd rfl (.inl rfl)) (fun _ _ _ _ _ => pts_one (pt_cmpR (op_neD hr.units) (pv 11) (pe_tup (pa_cons (pv 7) (pa_cons (pv 6) pa_nil))) (by rfl))) (fun _ _ _ _ _ => pe_tup (pa_cons (pv 11) (pa_cons pe_int pa_nil)))) pa_nil)) pa_nil)) rfl))))
abbrev tNil' : TE := tLst tNil
abbrev tMNodes (K : PySem.W.Frag) (C : Addr) (pre : List V → Hp → Rl → Prop) (Pf : Addr) (i : Nat) : TE := tCB (rLstOf K) (tCons (tMeth C "nodes" (Pr Pf pre) [] E00 (tVar i) tNil) tNil)
abbrev tF5 (Pf : Addr) (K : PySem.W.Frag) (C : Addr) : TE := tLc (iList K (tVar 8)) (gName 22) (tNeD K (tCB (rLstOf K) (tCons (tMeth C "near" (Pr Pf (preGR C)) [] E00 (tVar 5) (tCons (tVar 22) tNil)) tNil)) (tDGet (tVar 9) (tVar 22))) (tVar 22) [22]
abbrev tFalse : TS := tRet (tC (.bl false))
theorem ps5 (T : LT P w K mg base Pf) (hr : Room 5 (LX P w K mg base f c A outer s H0 E).A) : PS (LX P w K mg base f c A outer s H0 E) (lawB 5)
    (tIfS (tOr (tNeD K (tMNodes K T.CG (preGN T.CG) Pf 5) (tVar 8)) (tNeD K (tF5 Pf K T.CG) tNil')) tFalse tNext) :=
  ps_if ((pw_or (pt_cmpR (op_neD hr.units) (pe_callTy call_list_of (by rfl) T.b.list PyProof.Rows.boot_list (pa_cons (pe_meth0 (E := E00) (pv 5) T.G.cl T.mGN T.FGN (hr.mono (by decide)) T.bGN .nil pass0) pa_nil)) (pv 8) (by rfl))
    (pw_or1 (pt_cmpR (op_neD hr.units) (pe_lc (own := [("_law_node", 22)]) (g := gName 22) (tt := tNeD K (tCB (rLstOf K) (tCons (tMeth T.CG "near" (Pr Pf (preGR T.CG)) [] E00 (tVar 5) (tCons (tVar 22) tNil)) tNil)) (tDGet (tVar 9) (tVar 22))) rfl scLaw.nd (pi_list (pv 8)) (blkOk_by (N := lawN) (sc := defScope sLaw) (by decide +kernel))
      (fun _ _ _ _ _ => pg_name (i := 22) scLaw.nd rfl (.inl rfl))
      (fun _ _ _ _ _ => pts_one (pt_cmpR (op_neD hr.units) (pe_callTy call_list_of (by rfl) T.b.list PyProof.Rows.boot_list (pa_cons (pe_meth (pv 5) T.G.cl T.mGR T.FGR (hr.mono (by decide)) T.bGR .nil pass0 (pa_cons (pv 22) pa_nil)) pa_nil)) (pe_dget (hu_of hr) (pv 9) (pv 22) (fun _ _ => rfl)) (by rfl))) (fun _ _ _ _ _ => pv 22))
      (pe_lst pa_nil) (by rfl)))).pt) (pss_one (ps_ret pe_bl)) pss_nil
abbrev tL6 (Pf : Addr) (K : PySem.W.Frag) : TE := tCall (Pr Pf preFl) [] E00 (tCons (tLc (iList K (tVar 8)) (gName 22) tYes (tLc (iList K (tDGet (tVar 9) (tVar 22))) (gName 23) tYes (tPair (tVar 22) (tVar 23)) [23]) [22]) tNil)
theorem ps6 (T : LT P w K mg base Pf) (hr : Room 5 (LX P w K mg base f c A outer s H0 E).A) : PS (LX P w K mg base f c A outer s H0 E) (lawB 6)
    (tIfS (tNeD K (tCB (rLstOf K) (tCons (tMeth T.CG "links" (Pr Pf (preGL T.CG)) [] E00 (tVar 5) tNil) tNil)) (tL6 Pf K)) tFalse tNext) :=
  ps_if (pt_cmpR (op_neD hr.units) (pe_callTy call_list_of (by rfl) T.b.list PyProof.Rows.boot_list (pa_cons (pe_meth0 (E := E00) (pv 5) T.G.cl T.mGL T.FGL (hr.mono (by decide)) T.bGL .nil pass0) pa_nil))
    (pe_call T.FFlat (hr.mono (by decide)) (by rfl) T.gFlat T.kFlat T.bFlat .nil pass0 (pa_cons
      (pe_lc (own := [("_law_node", 22)]) (g := gName 22) (tt := tYes) (te := tLc (iList K (tDGet (tVar 9) (tVar 22))) (gName 23) tYes (tPair (tVar 22) (tVar 23)) [23]) rfl scLaw.nd (pi_list (pv 8)) (blkOk_by (N := lawN) (sc := defScope sLaw) (by decide +kernel))
        (fun _ _ _ _ _ => pg_name (i := 22) scLaw.nd rfl (.inr rfl)) (fun _ _ _ _ _ => pts_nil)
        (fun _ _ _ _ _ => pe_lc (own := [("_law_other", 23)]) (g := gName 23) (tt := tYes) rfl scLaw.nd (pi_list (pe_dget (hu_of hr) (pv 9) (pv 22) (fun _ _ => rfl))) (blkOk_by (by kernel_rfl))
          (fun _ _ _ _ _ => pg_name (i := 23) scLaw.nd rfl (.inl rfl)) (fun _ _ _ _ _ => pts_nil) (fun _ _ _ _ _ => pe_tup (pa_cons (pv 22) (pa_cons (pv 23) pa_nil))))) pa_nil)) (by rfl)) (pss_one (ps_ret pe_bl)) pss_nil
theorem ps7 (T : LT P w K mg base Pf) (hr : Room 5 (LX P w K mg base f c A outer s H0 E).A) : PS (LX P w K mg base f c A outer s H0 E) (lawB 7)
    (tAsg (tOp (rIxL K) (tVar 8) (tRoll (tCB (rLen K) (tCons (tVar 8) tNil)))) (gName 12)) :=
  ps_set (i := 12) scLaw.nd rfl (.inr rfl) (pe_ix ix_list (pv 8) (pe_call T.FRoll (hr.mono (by decide)) (by rfl) T.gRoll T.kRoll T.bRoll .nil pass0 (pa_cons (pv 1) (pa_cons (pe_callB call_len_seq (by rfl) T.b.len PySem.boot_len (pa_cons (pv 8) pa_nil)) pa_nil))) (fun _ _ => rfl))
theorem ps8 (T : LT P w K mg base Pf) (hr : Room 5 (LX P w K mg base f c A outer s H0 E).A) : PS (LX P w K mg base f c A outer s H0 E) (lawB 8)
    (tAsg (tCall (Pr Pf preFT) [] E00 (tCons (tVar 9) (tCons (tVar 12) tNil))) (gName 13)) :=
  ps_set (i := 13) scLaw.nd rfl (.inr rfl) (pe_call T.FFarT (hr.mono (by decide)) (by rfl) T.gFar T.kFar T.bFar .nil pass0 (pa_cons (pv 9) (pa_cons (pv 12) pa_nil)))
abbrev tt9 (Pf : Addr) (C : Addr) : TT := tOr (tTest (tOp rNe (tMeth C "far" (Pr Pf (preGF C)) [] E00 (tVar 5) (tCons (tVar 12) (tCons (tVar 22) tNil))) (tDGet (tVar 13) (tVar 22))))
  (tTest (tOp rNe (tCall (Pr Pf (preSB C)) [] E00 (tCons (tVar 5) (tCons (tVar 12) (tCons (tVar 22) tNil)))) (tDGet (tVar 13) (tVar 22))))
theorem ps9 (T : LT P w K mg base Pf) (hr : Room 5 (LX P w K mg base f c A outer s H0 E).A) : PS (LX P w K mg base f c A outer s H0 E) (lawB 9)
    (tIfS (tNeD K (tLc (iList K (tVar 8)) (gName 22) (tt9 Pf T.CG) (tVar 22) [22]) tNil') tFalse tNext) :=
  ps_if (pt_cmpR (op_neD hr.units) (pe_lc (own := [("_law_node", 22)]) (g := gName 22) (tt := tt9 Pf T.CG) rfl scLaw.nd (pi_list (pv 8)) (blkOk_by (N := lawN) (sc := defScope sLaw) (by decide +kernel))
      (fun _ _ _ _ _ => pg_name (i := 22) scLaw.nd rfl (.inl rfl))
      (fun _ _ _ _ _ => pts_one (PW.pt (pw_or (pt_cmpR op_ne (pe_meth (pv 5) T.G.cl T.mGF T.FGF (hr.mono (by decide)) T.bGF .nil pass0 (pa_cons (pv 12) (pa_cons (pv 22) pa_nil))) (pe_dget (hu_of hr) (pv 13) (pv 22) (fun _ _ => rfl)) (by rfl))
        (pw_or1 (pt_cmpR op_ne (pe_call T.FSB (hr.mono (by decide)) (by rfl) T.gSB T.kSB T.bSB .nil pass0 (pa_cons (pv 5) (pa_cons (pv 12) (pa_cons (pv 22) pa_nil)))) (pe_dget (hu_of hr) (pv 13) (pv 22) (fun _ _ => rfl)) (by rfl)))))) (fun _ _ _ _ _ => pv 22))
      (pe_lst pa_nil) (by rfl)) (pss_one (ps_ret pe_bl)) pss_nil
abbrev te10 (Pf : Addr) (K : PySem.W.Frag) : TE := tCB rMaxT (tCons (tBM0 K "dict" rValsT (tCall (Pr Pf preFT) [] E00 (tCons (tVar 9) (tCons (tVar 22) tNil)))) tNil)
theorem ps10 (T : LT P w K mg base Pf) (hr : Room 5 (LX P w K mg base f c A outer s H0 E).A) : PS (LX P w K mg base f c A outer s H0 E) (lawB 10)
    (tIfS (tTest (tOp rNe (tCall (Pr Pf (preW T.CG (preGN T.CG) (preGF T.CG))) [] E00 (tCons (tVar 5) tNil)) (tCB (rMax K) (tCons (tLc (iList K (tVar 8)) (gName 22) tYes (te10 Pf K) [22]) tNil)))) tFalse tNext) :=
  ps_if (pt_cmpR op_ne (pe_call T.FWG (hr.mono (by decide)) (by rfl) T.gW T.kW T.bW .nil pass0 (pa_cons (pv 5) pa_nil)) (pe_callB (cr_max rfl) (by rfl) T.b.max PyProof.Rows.boot_max (pa_cons
    (pe_lc (own := [("_law_node", 22)]) (g := gName 22) (tt := tYes) (te := te10 Pf K) rfl scLaw.nd (pi_list (pv 8)) (blkOk_by (N := lawN) (sc := defScope sLaw) (by decide +kernel)) (fun _ _ _ _ _ => pg_name (i := 22) scLaw.nd rfl (.inl rfl)) (fun _ _ _ _ _ => pts_nil)
      (fun _ _ _ _ _ => pe_callB (cr_maxT rfl) (by rfl) T.b.max PyProof.Rows.boot_max (pa_cons (pe_bm0 PySem.F.plainAttrs_dict PySem.F.slot_dict_values PySem.F.type_dict_values mt_valsT
        (pe_call T.FFarT (hr.mono (by decide)) (by rfl) T.gFar T.kFar T.bFar .nil pass0 (pa_cons (pv 9) (pa_cons (pv 22) pa_nil)))) pa_nil))) pa_nil)) (by rfl)) (pss_one (ps_ret pe_bl)) pss_nil
end
end K18

set_option Elab.async false
set_option linter.all false
set_option maxRecDepth 100000
set_option maxHeartbeats 4000000
/-! The law's statements as readings, the rest. -/
namespace K18
open PySem L2
section
variable {Pf : Addr} {P : Program} {w : World} {K : PySem.W.Frag} {mg : Str → Option Value} {base : Heap} {f c : Addr} {A : Around} {outer : List Env} {s : Shared} {H0 : Hp} {E : XK}
abbrev tNe (a b : TE) : TT := tTest (tOp rNe a b)
abbrev tEq (a b : TE) : TT := tTest (tOp rEq a b)
theorem ps11 (T : LT P w K mg base Pf) (hr : Room 5 (LX P w K mg base f c A outer s H0 E).A) : PS (LX P w K mg base f c A outer s H0 E) (lawB 11)
    (tAsg (tLc (iList K (tVar 8)) (gName 22) (tEq (tRoll (tI 2)) (tI 0)) (tVar 22) [22]) (gName 14)) :=
  ps_set (i := 14) scLaw.nd rfl (.inr rfl) (pe_lc (own := [("_law_node", 22)]) (g := gName 22) (tt := tEq (tRoll (tI 2)) (tI 0)) rfl scLaw.nd (pi_list (pv 8)) (blkOk_by (N := lawN) (sc := defScope sLaw) (by decide +kernel))
    (fun _ _ _ _ _ => pg_name (i := 22) scLaw.nd rfl (.inl rfl)) (fun _ _ _ _ _ => pts_one (pt_cmpR op_eq (pe_call T.FRoll (hr.mono (by decide)) (by rfl) T.gRoll T.kRoll T.bRoll .nil pass0 (pa_cons (pv 1) (pa_cons pe_int pa_nil))) pe_int (nomark _))) (fun _ _ _ _ _ => pv 22))
abbrev te12 (K : PySem.W.Frag) : TE := tLc (iList K (tDGet (tVar 9) (tVar 22))) (gName 23) (tTest (tOp (rNotInD K) (tVar 23) (tVar 14))) (tI 1) [23]
theorem ps12 (T : LT P w K mg base Pf) (hr : Room 5 (LX P w K mg base f c A outer s H0 E).A) (hu65 : (LX P w K mg base f c A outer s H0 E).A.units + 65 < cLine) : PS (LX P w K mg base f c A outer s H0 E) (lawB 12)
    (tIfS (tNe (tCall (Pr Pf (preK T.CG)) [] E00 (tCons (tVar 5) (tCons (tVar 14) tNil))) (tCB (rLen K) (tCons (tCall (Pr Pf preFl) [] E00 (tCons (tLc (iList K (tVar 14)) (gName 22) tYes (te12 K) [22]) tNil)) tNil))) tFalse tNext) :=
  ps_if (pt_cmpR op_ne (pe_call T.FK (hr.mono (by decide)) (by rfl) T.gK T.kK T.bK .nil pass0 (pa_cons (pv 5) (pa_cons (pv 14) pa_nil)))
    (pe_callB call_len_seq (by rfl) T.b.len PySem.boot_len (pa_cons (pe_call T.FFlat (hr.mono (by decide)) (by rfl) T.gFlat T.kFlat T.bFlat .nil pass0 (pa_cons
      (pe_lc (own := [("_law_node", 22)]) (g := gName 22) (tt := tYes) (te := te12 K) rfl scLaw.nd (pi_list (pv 14)) (blkOk_by (N := lawN) (sc := defScope sLaw) (by decide +kernel))
        (fun _ _ _ _ _ => pg_name (i := 22) scLaw.nd rfl (.inl rfl)) (fun _ _ _ _ _ => pts_nil)
        (fun _ _ _ _ _ => pe_lc (own := [("_law_other", 23)]) (g := gName 23) (tt := tTest (tOp (rNotInD K) (tVar 23) (tVar 14))) rfl scLaw.nd (pi_list (pe_dget (hu_of hr) (pv 9) (pv 22) (fun _ _ => rfl))) (blkOk_by (by kernel_rfl))
          (fun _ _ _ _ _ => pg_name (i := 23) scLaw.nd rfl (.inl rfl)) (fun _ _ _ _ _ => pts_one (pt_cmpR (op_notInD hu65) (pv 23) (pv 14) (by rfl))) (fun _ _ _ _ _ => pe_int))) pa_nil)) pa_nil)) (by rfl)) (pss_one (ps_ret pe_bl)) pss_nil
abbrev tStep (Pf : Addr) (C : Addr) (x : Str) : TE := tMeth C "step" (Pr Pf (preGS C)) [] E00 (tVar 5) (tCons (tPair (tI 0) (tI 0)) (tCons (tC (.str x)) tNil))
theorem ps13 (T : LT P w K mg base Pf) (hr : Room 5 (LX P w K mg base f c A outer s H0 E).A) : PS (LX P w K mg base f c A outer s H0 E) (lawB 13)
    (tIfS (tOr (tNeD K (tStep Pf T.CG "west") (tIf (tB (tVar 4)) (tPair (tSub (tVar 2) (tI 1)) (tI 0)) (tC .non)))
      (tNeD K (tStep Pf T.CG "south") (tIf (tOr (tB (tVar 4)) (tTest (tOp (rI0 fun i j => .bl (decide (i > j))) (tVar 3) (tI 1)))) (tPair (tI 0) (tMod (tI 1) (tVar 3))) (tC .non)))) tFalse tNext) :=
  ps_if (PW.pt (pw_or (pt_cmpR (op_neD hr.units) (pe_meth (pv 5) T.G.cl T.mGS T.FGS (hr.mono (by decide)) T.bGS .nil pass0 (pa_cons (pe_tup (pa_cons pe_int (pa_cons pe_int pa_nil))) (pa_cons pe_str pa_nil)))
      (pe_ifExp (pt_val (pv 4)) (pe_tup (pa_cons (pe_op op_sub (pv 2) pe_int) (pa_cons pe_int pa_nil))) pe_non) (by rfl))
    (pw_or1 (pt_cmpR (op_neD hr.units) (pe_meth (pv 5) T.G.cl T.mGS T.FGS (hr.mono (by decide)) T.bGS .nil pass0 (pa_cons (pe_tup (pa_cons pe_int (pa_cons pe_int pa_nil))) (pa_cons pe_str pa_nil)))
      (pe_ifExp (PW.pt (pw_or (pt_val (pv 4)) (pw_or1 (pt_cmpR op_gt (pv 3) pe_int (nomark _))))) (pe_tup (pa_cons pe_int (pa_cons (pe_op op_mod pe_int (pv 3)) pa_nil))) pe_non) (by rfl))))) (pss_one (ps_ret pe_bl)) pss_nil
theorem ps14 (T : LT P w K mg base Pf) (hr : Room 5 (LX P w K mg base f c A outer s H0 E).A) : PS (LX P w K mg base f c A outer s H0 E) (lawB 14) (tAsg (tAdd (tI 1) (tRoll (tI 3))) (gName 15)) :=
  ps_set (i := 15) scLaw.nd rfl (.inl rfl) (pe_op op_add pe_int (pe_call T.FRoll (hr.mono (by decide)) (by rfl) T.gRoll T.kRoll T.bRoll .nil pass0 (pa_cons (pv 1) (pa_cons pe_int pa_nil))))
theorem ps15 (T : LT P w K mg base Pf) (hr : Room 5 (LX P w K mg base f c A outer s H0 E).A) : PS (LX P w K mg base f c A outer s H0 E) (lawB 15)
    (tAsg (tPair (tMake T.CC (spCI T.CC T.CE) [] E00 (tCons (tVar 15) tNil)) (tCall (Pr Pf preGy) [] E00 (tCons (tVar 15) tNil))) (gTup K 2 (gCons (gName 16) (gCons (gName 17) gNil)))) :=
  ps_asg (pe_tup (pa_cons (pe_make T.MC T.FCI (hr.mono (by decide)) (by rfl) T.gC T.bCI .nil pass00 (pa_cons (pv 15) pa_nil)) (pa_cons (pe_call T.FGy (hr.mono (by decide)) (by rfl) T.gGy T.kGy T.bGy .nil pass0 (pa_cons (pv 15) pa_nil)) pa_nil)))
    (pg_tup rfl (pgs_cons (pg_name (i := 16) scLaw.nd rfl (.inr rfl)) (pgs_cons (pg_name (i := 17) scLaw.nd rfl (.inr rfl)) pgs_nil))) rfl
theorem ps16 : PS (LX P w K mg base f c A outer s H0 E) (lawB 16) (tAsg (tOp (rIxL K) (tLst (tCons (tI 2) (tCons (tI 4) (tCons (tI 8) tNil)))) (tSub (tVar 15) (tI 1))) (gName 18)) :=
  ps_set (i := 18) scLaw.nd rfl (.inr rfl) (pe_ix ix_list (pe_lst (pa_cons pe_int (pa_cons pe_int (pa_cons pe_int pa_nil)))) (pe_op op_sub (pv 15) pe_int) (fun _ _ => rfl))
abbrev tRgM : TE := tLstRg (tRg1 (tVar 18))
abbrev iRgM : TI := iRng1 (tCons (tVar 18) tNil)
theorem ps17 (T : LT P w K mg base Pf) (hr : Room 5 (LX P w K mg base f c A outer s H0 E).A) : PS (LX P w K mg base f c A outer s H0 E) (lawB 17)
    (tIfS (tOr (tNeD K (tMNodes K T.CC (preCN T.CC) Pf 16) tRgM) (tNeD K (tCB (rSortTI K) (tCons (tVar 17) tNil)) tRgM)) tFalse tNext) :=
  ps_if (PW.pt (pw_or (pt_cmpR (op_neD hr.units) (pe_callTy call_list_of (by rfl) T.b.list PyProof.Rows.boot_list (pa_cons (pe_meth0 (E := E00) (pv 16) T.C.cl T.mCN T.FCN (hr.mono (by decide)) T.bCN .nil pass0) pa_nil)) (pe_listRg rfl (by rfl) T.b.list (prg_1 (by rfl) T.b.range (pv 18))) (by rfl))
    (pw_or1 (pt_cmpR (op_neD hr.units) (pe_callB cr_sortedTI (by rfl) T.b.sorted PyProof.Rows.boot_sorted (pa_cons (pv 17) pa_nil)) (pe_listRg rfl (by rfl) T.b.list (prg_1 (by rfl) T.b.range (pv 18))) (by rfl))))) (pss_one (ps_ret pe_bl)) pss_nil
abbrev tDiv (a b : TE) : TE := tOp (rI CDiv fun i j => .int (i / j)) a b
abbrev tt18 : TT := tNe (tMod (tDiv (tVar 22) (tVar 24)) (tI 2)) (tMod (tDiv (tVar 23) (tVar 24)) (tI 2))
abbrev te18a (K : PySem.W.Frag) : TE := tLc (iList K (tLst (tCons (tI 1) (tCons (tI 2) (tCons (tI 4) tNil))))) (gName 24) tt18 (tI 1) [24]
abbrev te18b (K : PySem.W.Frag) : TE := tLc iRgM (gName 23) (tEq (tCB (rLen K) (tCons (te18a K) tNil)) (tI 1)) (tVar 23) [23]
theorem ps18 (T : LT P w K mg base Pf) (hr : Room 5 (LX P w K mg base f c A outer s H0 E).A) : PS (LX P w K mg base f c A outer s H0 E) (lawB 18)
    (tAsg (tCB (rDictPK K) (tCons (tLc iRgM (gName 22) tYes (tPair (tVar 22) (te18b K)) [22]) tNil)) (gName 19)) :=
  ps_set (i := 19) scLaw.nd rfl (.inr rfl) (pe_callTy (call_dictP rfl) (by rfl) T.b.dict PyProof.Rows.boot_dict (pa_cons
    (pe_lc (own := [("_law_node", 22)]) (g := gName 22) (tt := tYes) (te := tPair (tVar 22) (te18b K)) rfl scLaw.nd (pi_range1 (by rfl) T.b.range (pa_cons (pv 18) pa_nil)) (blkOk_by (N := lawN) (sc := defScope sLaw) (by decide +kernel))
      (fun _ _ _ _ _ => pg_name (i := 22) scLaw.nd rfl (.inr rfl)) (fun _ _ _ _ _ => pts_nil)
      (fun _ _ _ _ _ => pe_tup (pa_cons (pv 22) (pa_cons (pe_lc (own := [("_law_other", 23)]) (g := gName 23) (tt := tEq (tCB (rLen K) (tCons (te18a K) tNil)) (tI 1)) rfl scLaw.nd (pi_range1 (by rfl) T.b.range (pa_cons (pv 18) pa_nil)) (blkOk_by (by kernel_rfl))
        (fun _ _ _ _ _ => pg_name (i := 23) scLaw.nd rfl (.inr rfl))
        (fun _ _ _ _ _ => pts_one (pt_cmpR op_eq (pe_callB call_len_seq (by rfl) T.b.len PySem.boot_len (pa_cons (pe_lc (own := [("_law_part", 24)]) (g := gName 24) (tt := tt18) rfl scLaw.nd (pi_list (pe_lst (pa_cons pe_int (pa_cons pe_int (pa_cons pe_int pa_nil))))) (blkOk_by (by kernel_rfl))
          (fun _ _ _ _ _ => pg_name (i := 24) scLaw.nd rfl (.inl rfl)) (fun _ _ _ _ _ => pts_one (pt_cmpR op_ne (pe_op op_mod (pe_op op_fdiv (pv 22) (pv 24)) pe_int) (pe_op op_mod (pe_op op_fdiv (pv 23) (pv 24)) pe_int) (by rfl))) (fun _ _ _ _ _ => pe_int)) pa_nil)) pe_int (nomark _)))
        (fun _ _ _ _ _ => pv 23)) pa_nil)))) pa_nil))
abbrev tt19 (Pf : Addr) (K : PySem.W.Frag) (C : Addr) : TT := tNeD K (tCB (rLstOf K) (tCons (tMeth C "near" (Pr Pf (preCR C)) [] E00 (tVar 16) (tCons (tVar 22) tNil)) tNil)) (tDGet (tVar 19) (tVar 22))
theorem ps19 (T : LT P w K mg base Pf) (hr : Room 5 (LX P w K mg base f c A outer s H0 E).A) : PS (LX P w K mg base f c A outer s H0 E) (lawB 19)
    (tIfS (tOr (tNeD K (tLc iRgM (gName 22) (tt19 Pf K T.CC) (tVar 22) [22]) tNil') (tNe (tCall (Pr Pf (preW T.CC (preCN T.CC) (preCF T.CC))) [] E00 (tCons (tVar 16) tNil)) (tVar 15))) tFalse tNext) :=
  ps_if (PW.pt (pw_or (pt_cmpR (op_neD hr.units) (pe_lc (own := [("_law_node", 22)]) (g := gName 22) (tt := tt19 Pf K T.CC) rfl scLaw.nd (pi_range1 (by rfl) T.b.range (pa_cons (pv 18) pa_nil)) (blkOk_by (N := lawN) (sc := defScope sLaw) (by decide +kernel))
      (fun _ _ _ _ _ => pg_name (i := 22) scLaw.nd rfl (.inl rfl))
      (fun _ _ _ _ _ => pts_one (pt_cmpR (op_neD hr.units) (pe_callTy call_list_of (by rfl) T.b.list PyProof.Rows.boot_list (pa_cons (pe_meth (pv 16) T.C.cl T.mCR T.FCR (hr.mono (by decide)) T.bCR .nil pass0 (pa_cons (pv 22) pa_nil)) pa_nil)) (pe_dget (hu_of hr) (pv 19) (pv 22) (fun _ _ => rfl)) (by rfl))) (fun _ _ _ _ _ => pv 22))
      (pe_lst pa_nil) (by rfl))
    (pw_or1 (pt_cmpR op_ne (pe_call T.FWC (hr.mono (by decide)) (by rfl) T.gW T.kW T.bW .nil pass0 (pa_cons (pv 16) pa_nil)) (pv 15) (nomark _))))) (pss_one (ps_ret pe_bl)) pss_nil
abbrev tt20 (K : PySem.W.Frag) : TT := tTest (tOp (rNotInD K) (tOp (rIxT K) (tVar 17) (tMod (tAdd (tVar 25) (tI 1)) (tVar 18))) (tDGet (tVar 19) (tOp (rIxT K) (tVar 17) (tVar 25))))
theorem ps20 (T : LT P w K mg base Pf) (hr : Room 5 (LX P w K mg base f c A outer s H0 E).A) (hu65 : (LX P w K mg base f c A outer s H0 E).A.units + 65 < cLine) : PS (LX P w K mg base f c A outer s H0 E) (lawB 20)
    (tIfS (tAnd (tNeD K (tLc iRgM (gName 25) (tt20 K) (tVar 25) [25]) tNil') (tTest (tOp (rI0 fun i j => .bl (decide (i > j))) (tVar 15) (tI 1)))) tFalse tNext) :=
  ps_if (PW.pt (pw_and (pt_cmpR (op_neD hr.units) (pe_lc (own := [("_law_k", 25)]) (g := gName 25) (tt := tt20 K) rfl scLaw.nd (pi_range1 (by rfl) T.b.range (pa_cons (pv 18) pa_nil)) (blkOk_by (N := lawN) (sc := defScope sLaw) (by decide +kernel))
      (fun _ _ _ _ _ => pg_name (i := 25) scLaw.nd rfl (.inl rfl))
      (fun _ _ _ _ _ => pts_one (pt_cmpR (op_notInD hu65) (pe_ix ix_tup (pv 17) (pe_op op_mod (pe_op op_add (pv 25) pe_int) (pv 18)) (fun _ _ => rfl)) (pe_dget (hu_of hr) (pv 19) (pe_ix ix_tup (pv 17) (pv 25) (fun _ _ => rfl)) (fun _ _ => rfl)) (by rfl))) (fun _ _ _ _ _ => pv 25))
      (pe_lst pa_nil) (by rfl))
    (pw_and1 (pt_cmpR op_gt (pv 15) pe_int (nomark _))))) (pss_one (ps_ret pe_bl)) pss_nil
theorem ps21 (T : LT P w K mg base Pf) (hr : Room 5 (LX P w K mg base f c A outer s H0 E).A) : PS (LX P w K mg base f c A outer s H0 E) (lawB 21) (tAsg (tRoll (tVar 18)) (gName 11)) :=
  ps_set (i := 11) scLaw.nd rfl (.inr rfl) (pe_call T.FRoll (hr.mono (by decide)) (by rfl) T.gRoll T.kRoll T.bRoll .nil pass0 (pa_cons (pv 1) (pa_cons (pv 18) pa_nil)))
abbrev tt22 (Pf : Addr) (C : Addr) : TT := tNe (tMeth C "far" (Pr Pf (preCF C)) [] E00 (tVar 16) (tCons (tVar 11) (tCons (tVar 23) tNil))) (tDGet (tCall (Pr Pf preFK) [] E00 (tCons (tVar 19) (tCons (tVar 11) tNil))) (tVar 23))
theorem ps22 (T : LT P w K mg base Pf) (hr : Room 5 (LX P w K mg base f c A outer s H0 E).A) : PS (LX P w K mg base f c A outer s H0 E) (lawB 22)
    (tIfS (tNeD K (tLc iRgM (gName 23) (tt22 Pf T.CC) (tVar 23) [23]) tNil') tFalse tNext) :=
  ps_if (pt_cmpR (op_neD hr.units) (pe_lc (own := [("_law_other", 23)]) (g := gName 23) (tt := tt22 Pf T.CC) rfl scLaw.nd (pi_range1 (by rfl) T.b.range (pa_cons (pv 18) pa_nil)) (blkOk_by (N := lawN) (sc := defScope sLaw) (by decide +kernel))
      (fun _ _ _ _ _ => pg_name (i := 23) scLaw.nd rfl (.inl rfl))
      (fun _ _ _ _ _ => pts_one (pt_cmpR op_ne (pe_meth (pv 16) T.C.cl T.mCF T.FCF (hr.mono (by decide)) T.bCF .nil pass0 (pa_cons (pv 11) (pa_cons (pv 23) pa_nil))) (pe_dget (hu_of hr) (pe_call T.FFarK (hr.mono (by decide)) (by rfl) T.gFar T.kFar T.bFar .nil pass0 (pa_cons (pv 19) (pa_cons (pv 11) pa_nil))) (pv 23) (fun _ _ => rfl)) (by rfl))) (fun _ _ _ _ _ => pv 23))
      (pe_lst pa_nil) (by rfl)) (pss_one (ps_ret pe_bl)) pss_nil
end
end K18

set_option Elab.async false
set_option linter.all false
set_option maxRecDepth 100000
set_option maxHeartbeats 4000000
/-! Readings of the law's statements: dice, grid, nodes. -/
namespace K18
open PySem L2
/-- the dice at pd, beside the base -/
structure DC (Pf pd : Addr) (B H : Hp) : Prop where
  sb : Sb Pf B H
  nb : B pd = none
  hd : ∃ a b c, H pd = some (dl a b c)
  np : pd ≠ Pf
section
variable {Pf pd : Addr} {P : Program} {w' : World} {K : PySem.W.Frag} {mg : Str → Option Value} {base : Heap} {B B' H H' : Hp} {σ : L2.St} {tm te : TE} {tz : TS} {D : Ends}
theorem DC.tr (x : DC Pf pd B H) (t : Tr Pf B H B' H') : DC Pf pd B' H' := by
  obtain ⟨a, b, c, h⟩ := x.hd
  obtain ⟨h1, h2⟩ := t.held x.np x.nb h (fun xs z => nomatch z)
  exact ⟨t.sub, h1, ⟨a, b, c, h2⟩, x.np⟩
theorem DC.ax (x : DC Pf pd B H) (t : Ax Pf H H') : DC Pf pd B H' := x.tr (.step x.sb t)
theorem rd_roll {m : Int} {Q : VK} (x : DC Pf pd B H) (hm : Ev Pf tm σ B (.int m)) (h0 : 0 < m) (h1 : m < 1000) (hσ : σ[1]? = some (some (.ref pd))) (k : ∀ i H', DC Pf pd B H' → 0 ≤ i → i < m → Q (.int i) H') : tRoll tm σ H Q := by
  refine ⟨_, hσ, hm H x.sb _ fun H1 a1 => ?_⟩
  have x1 := x.ax a1
  obtain ⟨a, b, c, h⟩ := x1.hd
  refine ⟨pd, m, a, b, c, rfl, h, h0, h1, fun i a' b' c' i0 i1 => k i _ ⟨x1.sb.mut x1.nb x1.np, x1.nb, ⟨a', b', c', upd_same⟩, x1.np⟩ i0 i1⟩
theorem toN {i : Int} (h : 0 ≤ i) : ∃ n : Nat, i = (n : Int) := ⟨i.toNat, (Int.toNat_of_nonneg h).symm⟩
variable {s w h e g r c n nr ar o hr fh sd wy cb od mn lk a b nd ot pt k0 : Option V}
theorem rd0 (x : DC Pf pd B H) (k : ∀ (w h : Nat) (e : Bool) H', Sml w h → DC Pf pd B H' → tz D (Ls s (some (.ref pd)) (some (.int (w : Int))) (some (.int (h : Int))) (some (.bl e)) g r c n nr ar o hr fh sd wy cb od mn lk a b nd ot pt k0) H') :
    tSeq (tAsg (tTup (tCons (tAdd (tI 1) (tRoll (tI 4))) (tCons (tAdd (tI 1) (tRoll (tI 4))) (tCons (tOp rEq (tRoll (tI 2)) (tI 1)) tNil)))) (gTup K 3 (gCons (gName 2) (gCons (gName 3) (gCons (gName 4) gNil))))) tz D
      (Ls s (some (.ref pd)) w h e g r c n nr ar o hr fh sd wy cb od mn lk a b nd ot pt k0) H := by
  refine rd_roll x ev_c (by decide) (by decide) rfl fun i H1 x1 i0 i1 => ⟨_, _, rfl, rfl, ?_⟩
  refine rd_roll x1 ev_c (by decide) (by decide) rfl fun j H2 x2 j0 j1 => ⟨_, _, rfl, rfl, ?_⟩
  refine rd_roll x2 ev_c (by decide) (by decide) rfl fun l H3 x3 l0 l1 => ⟨rfl, by show 3 ≤ sizeLine; decide, fun p hp => ⟨p, _, rfl, SqT.of upd_same, rfl, _, _, rfl, _, _, rfl, _, _, rfl, rfl, ?_⟩⟩
  obtain ⟨i, rfl⟩ := toN i0
  obtain ⟨j, rfl⟩ := toN j0
  have z := k (1 + i) (1 + j) (decide (V.int l = V.int 1)) (upd H3 p (.tup [.int (1 + (i : Int)), .int (1 + (j : Int)), .bl (decide (V.int l = V.int 1))])) ⟨by omega, by omega, by omega, by omega⟩ (x3.ax (.new x3.sb hp))
  rw [show ((1 + i : Nat) : Int) = 1 + (i : Int) from by omega, show ((1 + j : Nat) : Int) = 1 + (j : Int) from by omega] at z
  exact z
theorem rd1 {CG CE : Addr} {w h : Nat} {e : Bool} (x : DC Pf pd B H) (hs : Sml w h) (k : ∀ gp B' H', Ex B B' → DC Pf pd B' H' → GB CG B' gp w h e → tz D (Ls s (some (.ref pd)) (some (.int (w : Int))) (some (.int (h : Int))) (some (.bl e)) (some (.ref gp)) r c n nr ar o hr fh sd wy cb od mn lk a b nd ot pt k0) H') :
    tSeq (tAsg (tMake CG (spGI CG CE) [] E00 (tCons (tVar 2) (tCons (tVar 3) (tCons (tVar 4) tNil)))) (gName 5)) tz D
      (Ls s (some (.ref pd)) (some (.int (w : Int))) (some (.int (h : Int))) (some (.bl e)) g r c n nr ar o hr fh sd wy cb od mn lk a b nd ot pt k0) H := by
  refine ⟨_, rfl, _, rfl, _, rfl, fun p dx hp hdx hne => ?_⟩
  refine ⟨p, dx, (w : Int), (h : Int), e, rfl, upd_same, fun z => ?_, fun _ => ⟨rfl, ?_⟩⟩
  · obtain ⟨w1, _, h1, _⟩ := hs
    exact absurd z (by omega)
  · rw [upd_upd]
    have t1 : Tr Pf B H B (upd H dx (.own p)) := .side x.sb hdx
    have hp1 : (upd H dx (HO.own p)) p = none := by rw [upd_ne (Ne.symm hne)]; exact hp
    have t2 : Tr Pf B (upd H dx (.own p)) (upd B p (.ins CG dx (gF w h e))) (upd (upd H dx (.own p)) p (.ins CG dx (gF w h e))) := .new t1.sub hp1
    exact k p _ _ (t1.trans t2).bas (x.tr (t1.trans t2)) ⟨dx, upd_same⟩
theorem flat_of {ds : List PyData} {te1 : TE} {ls : List (List PyData)} (h1 : Ed Pf te1 σ B (.list (ls.map .list))) (hl : ls.flatten.length ≤ 10000) : Ed Pf (tCall (Pr Pf preFl) [] E00 (tCons te1 tNil)) σ B (.list ls.flatten) :=
  eg_call (rs := [rD (.list (ls.map .list))]) (ea_cons mono_D h1 fun _ _ => ea_nil) fun vs B2 e2 hv => by
    match vs, hv with
    | [v], ⟨g1, _⟩ => exact ⟨v, ls, rfl, g1, hl, rfl⟩
theorem rd2 {w h : Nat} (x : DC Pf pd B H) (hs : Sml w h) (k : ∀ nv B' H', Ex B B' → DC Pf pd B' H' → R B' nv (.list ((gnodes w h).map nodeD)) → tz D (Ls s (some (.ref pd)) (some (.int (w : Int))) (some (.int (h : Int))) e g r c (some nv) nr ar o hr fh sd wy cb od mn lk a b nd ot pt k0) H') :
    tSeq (tAsg (tL2 (Pf := Pf)) (gName 8)) tz D (Ls s (some (.ref pd)) (some (.int (w : Int))) (some (.int (h : Int))) e g r c n nr ar o hr fh sd wy cb od mn lk a b nd ot pt k0) H := by
  have hw := hs.2.1
  have hh := hs.2.2.2
  have k1 := ed_lc1 (Pf := Pf) (B := B) (σ := Ls s (some (.ref pd)) (some (.int (w : Int))) (some (.int (h : Int))) e g r c n nr ar o hr fh sd wy cb od mn lk a b nd ot pt k0) (j := 6) (vs := [6]) (wi := iRng1 (tCons (tVar 3) tNil)) (te := tLc (iRng1 (tCons (tVar 2) tNil)) (gName 7) tYes (tPair (tVar 7) (tVar 6)) [7]) (ds := rgD 0 h)
    (fun d => .list ((rgD 0 w).map fun e => .tuple [e, d])) (itd_range1 (ev_var rfl) (by omega)) (by rw [rgD_len]; omega) (fun y => rfl) fun d hd y B1 e1 ry =>
      ed_lc1 (j := 7) (vs := [7]) (ds := rgD 0 w) (fun e => .tuple [e, d]) (itd_range1 (ev_var rfl) (by omega)) (by rw [rgD_len]; omega) (fun y => rfl) fun d2 hd2 y2 B2 e2 ry2 =>
        ed_tup (ds := [d2, d]) (ea_cons mono_D (eg_var rfl ry2) fun B3 e3 => ea_cons mono_D (eg_var rfl (R.mono (e2.trans e3) _ ry)) fun _ _ => ea_nil) (by show 2 ≤ 100000; decide)
  have e1 : (rgD 0 h).map (fun d => PyData.list ((rgD 0 w).map fun e => PyData.tuple [e, d])) = ((rgD 0 h).map fun d => (rgD 0 w).map fun e => PyData.tuple [e, d]).map .list := by rw [List.map_map]; rfl
  have e2 : ((rgD 0 h).map fun d => (rgD 0 w).map fun e => PyData.tuple [e, d]).flatten = (gnodes w h).map nodeD := by rw [← gnodes_eq]; rfl
  rw [e1] at k1
  have k2 := flat_of (ds := []) k1 (by
    rw [e2, List.length_map, gnodes_len]
    have := Nat.mul_le_mul hh hw
    omega)
  rw [e2] at k2
  exact q_asgG (B := B) k2 x.sb fun v B' H' t r => k v B' H' t.bas (x.tr t) r
end
end K18

set_option Elab.async false
set_option linter.all false
set_option maxRecDepth 100000
set_option maxHeartbeats 4000000
/-! Readings: the law's own neighbours. -/
namespace K18
open PySem L2
def around4 (n : Int × Int) : List (Int × Int) := [(n.1 + 1, n.2), (n.1 - 1, n.2), (n.1, n.2 + 1), (n.1, n.2 - 1)]
def around2 (w h : Nat) (e : Bool) (n : Int × Int) : List (Int × Int) := if e then (around4 n).map fun q => (q.1 % (w : Int), q.2 % (h : Int)) else (around4 n).filter fun q => decide (q ∈ gnodes w h)
def aroundL (w h : Nat) (e : Bool) (n : Int × Int) : List (Int × Int) := (around2 w h e n).filter fun q => !decide (q = n)
def nearL (w h : Nat) (e : Bool) (n : Int × Int) : List (Int × Int) := sortP (keysN (aroundL w h e n))
def nearN (w h : Nat) (e : Bool) : List ((Int × Int) × List (Int × Int)) := (gnodes w h).map fun n => (n, nearL w h e n)
theorem around2_len (w h : Nat) (e : Bool) (n : Int × Int) : (around2 w h e n).length ≤ 4 := by
  unfold around2
  split
  · rw [List.length_map]
    exact Nat.le_refl 4
  · exact List.length_filter_le _ (around4 n)
theorem nearL_len (w h : Nat) (e : Bool) (n : Int × Int) : (nearL w h e n).length ≤ 4 := by
  unfold nearL
  rw [(sortP_perm _).length_eq]
  have h1 := foldN_len (aroundL w h e n) []
  have h2 : (aroundL w h e n).length ≤ 4 := Nat.le_trans (List.length_filter_le _ _) (around2_len w h e n)
  exact Nat.le_trans h1 (by rw [List.length_nil]; omega)
theorem gnodes_nodup : ∀ w, w ≤ 4 → ∀ h, h ≤ 4 → (gnodes w h).Nodup := by
  intro w hw h hh
  have : ∀ w ∈ List.range 5, ∀ h ∈ List.range 5, (gnodes w h).Nodup := by decide +kernel
  exact this w (List.mem_range.mpr (by omega)) h (List.mem_range.mpr (by omega))
theorem atD_no {κ : Type} [DecidableEq κ] {m : List (κ × PyData)} {k : κ} (h : ¬ k ∈ m.map (·.1)) : atD m k = none := by
  have z := atD_some m k
  rw [decide_eq_false h] at z
  cases q : atD m k with
  | none => rfl
  | some _ => rw [q] at z; cases z
section
variable {Pf pd : Addr} {P : Program} {w' : World} {K : PySem.W.Frag} {mg : Str → Option Value} {base : Heap} {B B' H H' : Hp} {σ : L2.St} {tm te : TE} {tz : TS} {D : Ends} {p : Addr} {o : HO}
theorem DC.mut (x : DC Pf pd B H) (hb : B p = none) (n : p ≠ Pf) (np : pd ≠ p) : DC Pf pd B (upd H p o) := by
  obtain ⟨a, b, c, h⟩ := x.hd
  exact ⟨x.sb.mut hb n, x.nb, ⟨a, b, c, by rw [upd_ne np]; exact h⟩, x.np⟩
theorem DC.take (x : DC Pf pd B H) (h : H p = some o) (n : p ≠ Pf) (np : pd ≠ p) : DC Pf pd (upd B p o) H := by
  refine ⟨⟨fun a u hu => ?_, by rw [upd_ne (Ne.symm n)]; exact x.sb.no, x.sb.tab⟩, by rw [upd_ne np]; exact x.nb, x.hd, x.np⟩
  by_cases z : a = p
  · rw [z] at hu ⊢
    rw [upd_same] at hu
    rw [← hu]
    exact h
  · rw [upd_ne z] at hu
    exact x.sb.ex a u hu
variable {s e0 g r c n nr ar o' hr fh sd wy cb od mn lk a b nd ot pt k0 : Option V}
/-- around, the first time -/
theorem ed_ar1 {n : Int × Int} (h7 : σ[7]? = some (some (.int n.1))) (h6 : σ[6]? = some (some (.int n.2))) : Ed Pf tAr1 σ B (.list ((around4 n).map nodeD)) := by
  have pr : ∀ {x y : TE} {i j : Int} {B2 : Hp}, Ev Pf x σ B2 (.int i) → Ev Pf y σ B2 (.int j) → Ed Pf (tPair x y) σ B2 (nodeD (i, j)) := fun hx hy =>
    ed_tup (ds := [.int _, .int _]) (ea_cons mono_D (ed_int hx) fun B3 e3 => ea_cons mono_D (ed_int (hy.mono e3)) fun _ _ => ea_nil) (by show 2 ≤ 100000; decide)
  exact ed_lst (ds := [nodeD _, nodeD _, nodeD _, nodeD _]) (ea_cons mono_D (pr (ev_op (ev_var h7) ev_c rv_I0) (ev_var h6)) fun _ _ => ea_cons mono_D (pr (ev_op (ev_var h7) ev_c rv_I0) (ev_var h6)) fun _ _ =>
    ea_cons mono_D (pr (ev_var h7) (ev_op (ev_var h6) ev_c rv_I0)) fun _ _ => ea_cons mono_D (pr (ev_var h7) (ev_op (ev_var h6) ev_c rv_I0)) fun _ _ => ea_nil) (by show 4 ≤ 100000; decide)
theorem ed_ar2 {w h : Nat} {e : Bool} {n : Int × Int} {nv av : V} (hs : Sml w h) (hn : R B nv (.list ((gnodes w h).map nodeD))) (ha : R B av (.list ((around4 n).map nodeD))) :
    Ed Pf (tAr2 K) (Ls s (some (.ref pd)) (some (.int (w : Int))) (some (.int (h : Int))) (some (.bl e)) g r c (some nv) nr (some av) o' hr fh sd wy cb od mn lk a b nd ot pt k0) B (.list ((around2 w h e n).map nodeD)) := by
  obtain ⟨w1, w4, h1, h4⟩ := hs
  refine eg_if (b := e) (et_B (ev_var rfl)) (fun he => ?_) (fun he => ?_)
  · subst he
    have k1 := ed_lcP (K := K) (Pf := Pf) (B := B) (σ := Ls s (some (.ref pd)) (some (.int (w : Int))) (some (.int (h : Int))) (some (.bl true)) g r c (some nv) nr (some av) o' hr fh sd wy cb od mn lk a b nd ot pt k0) (j := 20) (k := 21) (vs := [20, 21]) (wi := iList K (tVar 10)) (tt := tYes) (te := tPair (tMod (tVar 20) (tVar 2)) (tMod (tVar 21) (tVar 3)))
      (ds := (around4 n).map nodeD) (fun _ => true) (fun d => nodeD ((nodeOf d).1 % (w : Int), (nodeOf d).2 % (h : Int))) (itd_list (K := K) (eg_var rfl ha)) (by show 4 ≤ 50000; decide) (fun x y => rfl)
      (fun d hd => by obtain ⟨q, _, rfl⟩ := List.mem_map.mp hd; exact ⟨_, _, rfl⟩) (fun a b _ x y B1 _ _ _ => et_yes) (fun a b hd _ x y B1 e1 rx ry => by
        obtain ⟨q, _, eq⟩ := List.mem_map.mp hd
        cases eq
        have rx := R.int_inv rx
        have ry := R.int_inv ry
        subst rx ry
        exact ed_tup (ds := [.int (q.1 % (w : Int)), .int (q.2 % (h : Int))]) (ea_cons mono_D (ed_int (ev_op (ev_var rfl) (ev_var rfl) (rv_I (by show (0 : Int) < (w : Int); omega)))) fun _ _ => ea_cons mono_D (ed_int (ev_op (ev_var rfl) (ev_var rfl) (rv_I (by show (0 : Int) < (h : Int); omega)))) fun _ _ => ea_nil) (by show 2 ≤ 100000; decide))
    rw [List.filter_eq_self.mpr (fun _ _ => rfl), List.map_map] at k1
    unfold around2
    rw [if_pos rfl, List.map_map]
    exact k1
  · subst he
    have k1 := ed_lc (Pf := Pf) (B := B) (σ := Ls s (some (.ref pd)) (some (.int (w : Int))) (some (.int (h : Int))) (some (.bl false)) g r c (some nv) nr (some av) o' hr fh sd wy cb od mn lk a b nd ot pt k0) (j := 11) (vs := [11]) (wi := iList K (tVar 10)) (tt := tTest (tOp (rInD K) (tVar 11) (tVar 8))) (te := tVar 11)
      (ds := (around4 n).map nodeD) (fun d => ((gnodes w h).map nodeD).any fun z => PyData.eqv z d) (fun d => d) (itd_list (K := K) (eg_var rfl ha)) (by show 4 ≤ 50000; decide) (fun x => rfl)
      (fun d hd x B1 e1 rx => by
        obtain ⟨q, _, rfl⟩ := List.mem_map.mp hd
        exact et_inD (eg_var rfl rx) (fun B2 e2 => eg_var rfl (R.mono (e1.trans e2) _ hn)) ((shp_node _).ok (by decide)) ((shp_nodes _).ok (by decide)))
      (fun d hd _ x B1 e1 rx => eg_var rfl rx)
    rw [filter_map_inj (f := nodeD) (u := fun q => decide (q ∈ gnodes w h)) (g := nodeD) (fun q _ => by rw [any_inj inj_node, Bool.eq_iff_iff]; simp only [decide_eq_true_eq]) (fun _ _ _ => rfl)] at k1
    unfold around2
    rw [if_neg Bool.false_ne_true]
    exact k1
theorem ed_nr {w h : Nat} {e : Bool} {n : Int × Int} {av : V} (h7 : σ[7]? = some (some (.int n.1))) (h6 : σ[6]? = some (some (.int n.2))) (h10 : σ[10]? = some (some av)) (ha : R B av (.list ((around2 w h e n).map nodeD)))
    (hw : ∀ x, wipe ((wipe σ [11]).set 11 (some x)) [11] = wipe σ [11]) (g7 : ∀ x, ((wipe σ [11]).set 11 (some x))[7]? = σ[7]?) (g6 : ∀ x, ((wipe σ [11]).set 11 (some x))[6]? = σ[6]?) (g11 : ∀ x, ((wipe σ [11]).set 11 (some x))[11]? = some (some x)) :
    Ed Pf (tNr K) σ B (.list ((nearL w h e n).map nodeD)) := by
  have pr : ∀ {x y : TE} {σ : L2.St} {i j : Int} {B2 : Hp}, Ev Pf x σ B2 (.int i) → Ev Pf y σ B2 (.int j) → Ed Pf (tPair x y) σ B2 (nodeD (i, j)) := fun hx hy =>
    ed_tup (ds := [.int _, .int _]) (ea_cons mono_D (ed_int hx) fun B3 e3 => ea_cons mono_D (ed_int (hy.mono e3)) fun _ _ => ea_nil) (by show 2 ≤ 100000; decide)
  have k1 := ed_lc (Pf := Pf) (B := B) (σ := σ) (j := 11) (vs := [11]) (wi := iList K (tVar 10)) (tt := tNeD K (tVar 11) (tPair (tVar 7) (tVar 6))) (te := tPair (tVar 11) (tI 1))
      (ds := (around2 w h e n).map nodeD) (fun d => !PyData.eqv d (nodeD n)) (fun d => .tuple [d, .int 1]) (itd_list (K := K) (eg_var h10 ha)) (by rw [List.length_map]; exact Nat.le_trans (around2_len w h e n) (by decide)) hw
      (fun d hd x B1 e1 rx => by
        obtain ⟨q, _, rfl⟩ := List.mem_map.mp hd
        exact et_neD (eg_var (g11 x) rx) (fun B2 e2 => pr (ev_var (by rw [g7]; exact h7)) (ev_var (by rw [g6]; exact h6))) ((shp_node _).ok (by decide)) ((shp_node n).ok (by decide)))
      (fun d hd _ x B1 e1 rx => ed_tup (ds := [d, .int 1]) (ea_cons mono_D (eg_var (g11 x) rx) fun _ _ => ea_cons mono_D (eg_c (.int 1)) fun _ _ => ea_nil) (by show 2 ≤ 100000; decide))
  rw [filter_map_inj (f := nodeD) (u := fun q => !decide (q = n)) (g := fun q => PyData.tuple [nodeD q, .int 1]) (fun q _ => by rw [inj_node]) (fun _ _ _ => rfl)] at k1
  have e1 : (((around2 w h e n).filter fun q => !decide (q = n)).map fun q => PyData.tuple [nodeD q, .int 1]) = ((aroundL w h e n).map fun q => (q, PyData.int 1)).map fun p => PyData.tuple [nodeD p.1, p.2] := by rw [List.map_map]; rfl
  rw [e1] at k1
  exact ed_sortT (eg_dictPT (K := K) k1) (keysN_pkey _ _)
theorem rd3 {w h : Nat} {e : Bool} {nv : V} (x : DC Pf pd B H) (hs : Sml w h) (hn : R B nv (.list ((gnodes w h).map nodeD)))
    (k : ∀ nrv r c ar B' H', Ex B B' → DC Pf pd B' H' → rT (ndT (nearN w h e)) nrv B' → tz D (Ls s (some (.ref pd)) (some (.int (w : Int))) (some (.int (h : Int))) (some (.bl e)) g r c (some nv) (some nrv) ar o' hr fh sd wy cb od mn lk a b nd ot pt k0) H') :
    tSeq (tAsg tDNewT (gName 9)) (tSeq (tFor (iList K (tVar 8)) (gTup K 2 (gCons (gName 7) (gCons (gName 6) gNil))) (tSeq (tAsg tAr1 (gName 10)) (tSeq (tAsg (tAr2 K) (gName 10)) (sDPut (tVar 9) (tPair (tVar 7) (tVar 6)) (tNr K))))) tz) D
      (Ls s (some (.ref pd)) (some (.int (w : Int))) (some (.int (h : Int))) (some (.bl e)) g r c (some nv) nr ar o' hr fh sd wy cb od mn lk a b nd ot pt k0) H := by
  intro N hN
  have nN := x.sb.ne hN
  have npN : pd ≠ N := fun z => by
    obtain ⟨_, _, _, h⟩ := x.hd
    rw [z, hN] at h
    cases h
  have t0 : Tr Pf B H B (upd H N (.dT [])) := .side x.sb hN
  have x0 := x.tr t0
  refine q_for (B := B) (itd_list (K := K) (eg_var rfl hn)) x0.sb fun B1 H1 t1 => ?_
  have x1 := x0.tr t1
  obtain ⟨bN, hN1⟩ := t1.held nN (x.sb.fresh hN) upd_same (fun xs z => nomatch z)
  refine ⟨fun i σ' H' => ∃ Bc ks r c ar, σ' = Ls s (some (.ref pd)) (some (.int (w : Int))) (some (.int (h : Int))) (some (.bl e)) g r c (some nv) (some (.ref N)) ar o' hr fh sd wy cb od mn lk a b nd ot pt k0 ∧ Ex B1 Bc ∧ DC Pf pd Bc H' ∧ Bc N = none ∧ H' N = some (.dT ks) ∧ Kvs Bc ks (ndT (((gnodes w h).take i).map fun n => (n, nearL w h e n))),
    ⟨B1, [], r, c, ar, rfl, Ex.refl _, x1, bN, hN1, .nil⟩, fun i σ' H' _ ⟨Bc, _, _, _, _, _, h1, h2, _⟩ => h1.trans h2.sb.ex, ?_, ?_⟩
  · rintro i d y σ' H' hd ry ⟨Bc, ks, r, c, ar, rfl, e1, xc, bc, hc, kv⟩
    rw [List.getElem?_map] at hd
    cases hz : (gnodes w h)[i]? with
    | none =>
      rw [hz] at hd
      cases hd
    | some n =>
      rw [hz] at hd
      have hd := Option.some.inj hd
      subst hd
      have ry1 := R.mono e1 _ ry
      obtain ⟨ta, ys, rfl, hta, hys⟩ := R.tup_inv ry1
      obtain rfl := Rs.of_ints (ns := [n.1, n.2]) hys
      refine ⟨ta, _, rfl, SqT.of (xc.sb.at hta), rfl, _, _, rfl, _, _, rfl, rfl, ?_⟩
      refine q_asgG (B := Bc) (ed_ar1 (n := n) rfl rfl) xc.sb fun av B2 H2 t2 ra => ?_
      have hn2 := R.mono (t1.bas.trans (e1.trans t2.bas)) _ hn
      refine q_asgG (B := B2) (ed_ar2 (n := n) (nv := nv) (av := av) hs hn2 ra) t2.sub fun av2 B3 H3 t3 ra2 => ?_
      refine ed_nr (w := w) (h := h) (e := e) (n := n) (av := av2) rfl rfl rfl ra2 (fun _ => rfl) (fun _ => rfl) (fun _ => rfl) (fun _ => rfl) H3 t3.sub _ fun v4 B4 H4 t4 r4 => ?_
      refine ⟨_, rfl, ?_⟩
      have prn : Ed Pf (tPair (tVar 7) (tVar 6)) (Ls s (some (.ref pd)) (some (.int (w : Int))) (some (.int (h : Int))) (some (.bl e)) g (some (.int n.2)) (some (.int n.1)) (some nv) (some (.ref N)) (some av2) o' hr fh sd wy cb od mn lk a b nd ot pt k0) B4 (nodeD n) :=
        ed_tup (ds := [.int _, .int _]) (ea_cons mono_D (ed_int (ev_var rfl)) fun B3 e3 => ea_cons mono_D (ed_int (ev_var rfl)) fun _ _ => ea_nil) (by show 2 ≤ 100000; decide)
      refine prn H4 t4.sub _ fun v5 B5 H5 t5 r5 => ?_
      have tt := ((t2.trans t3).trans t4).trans t5
      obtain ⟨b5, h5⟩ := tt.held nN bc hc (fun xs z => nomatch z)
      obtain ⟨kb, rfl, hkb⟩ := node_inv r5
      have hi : i < (gnodes w h).length := (List.getElem?_eq_some_iff.mp hz).1
      have lk' : ks.length < sizeLine := by
        rw [kv.length, List.length_map, List.length_map, List.length_take, gnodes_len]
        have := Nat.mul_le_mul hs.2.2.2 hs.2.1
        exact sz_lt (by omega)
      refine ⟨N, _, rfl, DPut.t (k := pkey n) h5 (t5.sub.at hkb) lk', ?_⟩
      have kv5 := (kv.mono tt.bas).put (k := pkey n) (R.mono t5.bas _ r4)
      have hnew : atD (ndT (((gnodes w h).take i).map fun n => (n, nearL w h e n))) (pkey n) = none := by
        have zz : ¬ pkey n ∈ (ndT (((gnodes w h).take i).map fun n => (n, nearL w h e n))).map (·.1) := fun hm => by
          rw [List.map_map, List.map_map] at hm
          obtain ⟨q, hq, eq⟩ := List.mem_map.mp hm
          have eq : pkey q = pkey n := eq
          have eq := pkey_inj.mp eq
          subst eq
          obtain ⟨j, hj⟩ := List.mem_iff_getElem?.mp hq
          rw [List.getElem?_take] at hj
          split at hj
          · rename_i hji
            have := (List.getElem?_inj (by omega) (gnodes_nodup w hs.2.1 h hs.2.2.2)).mp (hj.trans hz.symm)
            omega
          · cases hj
        exact atD_no zz
      have enew : putD (ndT (((gnodes w h).take i).map fun n => (n, nearL w h e n))) (pkey n) (.list ((nearL w h e n).map nodeD)) = ndT (((gnodes w h).take (i + 1)).map fun n => (n, nearL w h e n)) := by
        unfold putD
        rw [hnew, if_neg (by simp), List.take_add_one, hz, List.map_append]
        show _ = ndT (_ ++ [(n, nearL w h e n)])
        unfold ndT
        rw [List.map_append]
        rfl
      rw [enew] at kv5
      exact ⟨B5, _, _, _, _, rfl, e1.trans tt.bas, (xc.tr tt).mut b5 nN npN, b5, upd_same, kv5⟩
  · rintro σ' H' ⟨Bc, ks, r, c, ar, rfl, e1, xc, bc, hc, kv⟩
    rw [List.length_map, List.take_of_length_le (Nat.le_refl _)] at kv
    exact k (.ref N) r c ar (upd Bc N (.dT ks)) H' ((t1.bas.trans e1).trans (Ex.new bc)) (xc.take hc nN npN) ⟨N, ks, rfl, upd_same, kv.mono (Ex.new bc)⟩
end
end K18

set_option Elab.async false
set_option linter.all false
set_option maxRecDepth 100000
set_option maxHeartbeats 4000000
/-! Readings: the grid against the law's spreading. -/
namespace K18
open PySem L2
theorem find_map {α β : Type} [DecidableEq α] (f : α → β) (n : α) : ∀ {l : List α}, n ∈ l → ((l.map fun a => (a, f a)).find? fun p => decide (p.1 = n)) = some (n, f n)
  | a :: l, h => by
    by_cases e : a = n
    · rw [List.map_cons, List.find?_cons, decide_eq_true e, e]
    · rw [List.map_cons, List.find?_cons, decide_eq_false e]
      rcases List.mem_cons.mp h with z | z
      · exact absurd z.symm e
      · exact find_map f n z
theorem nearT_in {w h : Nat} {e : Bool} {n : Int × Int} (hn : n ∈ gnodes w h) : nearT (nearN w h e) n = some (nearL w h e n) := by
  unfold nearT nearN
  rw [find_map _ n hn]
  rfl
theorem atD_near {w h : Nat} {e : Bool} {n : Int × Int} (hn : n ∈ gnodes w h) : atD (ndT (nearN w h e)) (pkey n) = some (.list ((nearL w h e n).map nodeD)) := by
  have hz := atD_map (kf := pkey) (fun a b => pkey_inj) (fun l : List (Int × Int) => PyData.list (l.map nodeD)) n (nearN w h e)
  have h2 := nearT_in (e := e) hn
  unfold nearT at h2
  rw [h2] at hz
  exact hz
def resG (w h : Nat) (e : Bool) (a : Int × Int) : List ((Int × Int) × Int) := (bfs (nearT (nearN w h e)) 40 [(a, 0)] [a]).getD []
/-- what the plain law gives of a grid -/
structure GLaw (w h : Nat) (e : Bool) : Prop where
  near : ∀ n ∈ gnodes w h, nearG w h e n = nearL w h e n
  run : ∀ a ∈ gnodes w h, bfs (nearT (nearN w h e)) 40 [(a, 0)] [a] = some (resG w h e a)
  steps : ∀ a ∈ gnodes w h, bfs (fun n => some (nearG w h e n)) 40 [(a, 0)] [a] = some (resG w h e a)
  far : ∀ a ∈ gnodes w h, ∀ n ∈ gnodes w h, getI (resG w h e a) n = some (farG w h e a n)
  pos : ∀ a ∈ gnodes w h, 0 < (resG w h e a).length
  wide : maxZ ((gnodes w h).flatMap fun a => (gnodes w h).map (farG w h e a)) = maxZ ((gnodes w h).map fun n => maxZ ((resG w h e n).map (·.2)))
  west : stepG w h e (0, 0) (0 - 1, 0) = if e then some ((w : Int) - 1, 0) else none
  south : stepG w h e (0, 0) (0, 1) = if e || decide ((h : Int) > 1) then some (0, 1 % (h : Int)) else none
theorem getI_ks {α κ : Type} [DecidableEq α] [DecidableEq κ] {kf : α → κ} (hi : ∀ a b, kf a = kf b ↔ a = b) (a : α) (m : List (α × Int)) : atD (ksD kf m) (kf a) = (getI m a).map PyData.int := atD_map (kf := kf) hi PyData.int a m
section
variable {Pf pd : Addr} {P : Program} {w' : World} {K : PySem.W.Frag} {mg : Str → Option Value} {base : Heap} {B B' H H' : Hp} {σ : L2.St} {tm te : TE} {tt : TT} {tz : TS} {D : Ends} {p : Addr} {o : HO} {wi : TI} {ds : List PyData}
theorem rd_if (x : DC Pf pd B H) (h : EvT Pf tt σ B false) (k : ∀ H', DC Pf pd B H' → tz D σ H') : tSeq (tIfS tt tFalse tNext) tz D σ H := q_if h x.sb (fun hb => by cases hb) (fun _ H1 a1 => k H1 (x.ax a1))
theorem et_empty {j : Nat} {vs : List Nat} (hi : Itd Pf wi σ B ds) (hz : ds.length ≤ 50000) (hw : ∀ x, wipe ((wipe σ vs).set j (some x)) vs = wipe σ vs) (ht : ∀ d ∈ ds, ∀ x B1, Ex B B1 → R B1 x d → EvT Pf tt ((wipe σ vs).set j (some x)) B1 false) :
    EvT Pf (tNeD K (tLc wi (gName j) tt te vs) tNil') σ B false := by
  have k1 := ed_lc (te := te) (fun _ => false) (fun d => d) hi hz hw ht (fun d _ hf => by cases hf)
  have e1 : (ds.filter fun _ => false).map (fun d => d) = [] := by
    rw [List.filter_eq_nil_iff.mpr (fun a _ => by simp)]
    rfl
  rw [e1] at k1
  exact et_is (et_neD k1 (fun B' e' => ed_lst (ds := []) ea_nil (by decide)) ((shp_list (k := 0) fun a ha => absurd ha List.not_mem_nil).ok (by decide)) ((shp_list (k := 0) fun a ha => absurd ha List.not_mem_nil).ok (by decide))) (by simp [PyData.eqv, PyData.eqvAll])
theorem same_list {α : Type} [DecidableEq α] {f : α → PyData} (hf : Inj f) (l : List α) : (!PyData.eqv (.list (l.map f)) (.list (l.map f))) = false := by
  rw [inj_list hf l l]
  simp
variable {s e0 r c ar o' hr fh sd wy cb od mn lk a b nd ot pt k0 : Option V} {C : Addr} {gp : Addr} {w h : Nat} {e : Bool} {nv nrv : V}
theorem gF_no' {w h : Nat} {e : Bool} {m : Str} (h1 : ¬ m = "round_ends" := by decide +kernel) (h2 : ¬ m = "high" := by decide +kernel) (h3 : ¬ m = "wide" := by decide +kernel) : (gF (w : Int) (h : Int) e).lookup m = none := gF_no _ _ _ h1 h2 h3
theorem ed_gnear {i j : Nat} {n : Int × Int} {y : V} (hg : GB C B gp w h e) (hs : Sml w h) (h5 : σ[i]? = some (some (.ref gp))) (hj : σ[j]? = some (some y)) (hy : R B y (nodeD n)) : Ed Pf (tMeth C "near" (Pr Pf (preGR C)) [] E00 (tVar i) (tCons (tVar j) tNil)) σ B (.tuple ((nearG w h e n).map nodeD)) := by
  obtain ⟨dx, hp⟩ := id hg
  exact eg_meth (rs := [rD (nodeD n)]) (ev_var h5) hp gF_no' (ea_cons mono_D (eg_var hj hy) fun _ _ => ea_nil) fun vs B2 e2 hv => by
    match vs, hv with
    | [v], ⟨g1, _⟩ => exact ⟨gp, w, h, e, n, v, rfl, hg.mono e2, hs, g1, rfl⟩
theorem et5 (hs : Sml w h) (L : GLaw w h e) (hg : GB C B gp w h e) (hn : R B nv (.list ((gnodes w h).map nodeD))) (hr' : rT (ndT (nearN w h e)) nrv B) :
    EvT Pf (tOr (tNeD K (tMNodes K C (preGN C) Pf 5) (tVar 8)) (tNeD K (tF5 Pf K C) tNil')) (Ls s (some (.ref pd)) (some (.int (w : Int))) (some (.int (h : Int))) (some (.bl e)) (some (.ref gp)) r c (some nv) (some nrv) ar o' hr fh sd wy cb od mn lk a b nd ot pt k0) B false := by
  obtain ⟨dx, hp⟩ := id hg
  refine et_is (a := false || false) (et_or (et_is (et_neD (ed_lstOf (K := K) (eg_meth (rs := []) (ev_var rfl) hp gF_no' ea_nil fun vs B2 e2 hv => ?_)) (fun B2 e2 => eg_var rfl (R.mono e2 _ hn)) ((shp_nodes _).ok (by decide)) ((shp_nodes _).ok (by decide))) (same_list inj_node (gnodes w h))) fun _ => ?_) rfl
  · match vs, hv with
    | [], _ => exact ⟨gp, w, h, e, rfl, hg.mono e2, hs, rfl⟩
  · refine et_empty (itd_list (K := K) (eg_var rfl hn)) ?_ (fun x => rfl) fun d hd x B1 e1 rx => ?_
    · rw [List.length_map, gnodes_len]
      have := Nat.mul_le_mul hs.2.2.2 hs.2.1
      omega
    · obtain ⟨n, hnm, rfl⟩ := List.mem_map.mp hd
      refine et_is (et_neD (ed_lstOf (K := K) (ed_gnear (hg.mono e1) hs rfl rfl rx)) (fun B2 e2 => ed_dgetT (eg_var rfl (mono_T _ _ _ (e1.trans e2) hr')) (fun B3 e3 => eg_var rfl (R.mono (e2.trans e3) _ rx)) (atD_near hnm)) ((shp_nodes _).ok (by decide)) ((shp_nodes _).ok (by decide))) ?_
      rw [L.near n hnm]
      exact same_list inj_node _
theorem links_flat (L : GLaw w h e) : ((gnodes w h).map fun n => (nearL w h e n).map fun q => linkD (n, q)).flatten = (linksG w h e).map linkD := by
  unfold linksG
  rw [List.map_flatMap]
  show ((gnodes w h).map _).flatten = ((gnodes w h).map _).flatten
  congr 1
  apply List.map_congr_left
  intro n hn
  rw [L.near n hn, List.map_map]
  rfl
theorem shp_links (l : List ((Int × Int) × (Int × Int))) : Shp 3 (.list (l.map linkD)) := shp_map (fun p => shp_tup (k := 1) fun x hx => by
  rcases List.mem_cons.mp hx with e | hx
  · rw [e]; exact shp_node _
  · rcases List.mem_cons.mp hx with e | hx
    · rw [e]; exact shp_node _
    · exact absurd hx List.not_mem_nil) l
theorem et6 (hs : Sml w h) (L : GLaw w h e) (hg : GB C B gp w h e) (hn : R B nv (.list ((gnodes w h).map nodeD))) (hr' : rT (ndT (nearN w h e)) nrv B) :
    EvT Pf (tNeD K (tCB (rLstOf K) (tCons (tMeth C "links" (Pr Pf (preGL C)) [] E00 (tVar 5) tNil) tNil)) (tL6 Pf K)) (Ls s (some (.ref pd)) (some (.int (w : Int))) (some (.int (h : Int))) (some (.bl e)) (some (.ref gp)) r c (some nv) (some nrv) ar o' hr fh sd wy cb od mn lk a b nd ot pt k0) B false := by
  obtain ⟨dx, hp⟩ := id hg
  have gl : (gnodes w h).length ≤ 16 := by
    rw [gnodes_len]
    have := Nat.mul_le_mul hs.2.2.2 hs.2.1
    omega
  refine et_is (et_neD (ed_lstOf (K := K) (eg_meth (rs := []) (ev_var rfl) hp gF_no' ea_nil fun vs B2 e2 hv => ?_)) (fun B2 e2 => ?_) ((shp_links (linksG w h e)).ok (by decide)) ((shp_links (linksG w h e)).ok (by decide))) (same_list (inj_pair inj_node inj_node) (linksG w h e))
  · match vs, hv with
    | [], _ => exact ⟨gp, w, h, e, rfl, hg.mono e2, hs, rfl⟩
  · have k1 := ed_lc1 (Pf := Pf) (B := B2) (σ := Ls s (some (.ref pd)) (some (.int (w : Int))) (some (.int (h : Int))) (some (.bl e)) (some (.ref gp)) r c (some nv) (some nrv) ar o' hr fh sd wy cb od mn lk a b nd ot pt k0) (j := 22) (vs := [22]) (wi := iList K (tVar 8)) (te := tLc (iList K (tDGet (tVar 9) (tVar 22))) (gName 23) tYes (tPair (tVar 22) (tVar 23)) [23]) (ds := (gnodes w h).map nodeD)
      (fun d => .list ((nearL w h e (nodeOf d)).map fun q => .tuple [d, nodeD q])) (itd_list (K := K) (eg_var rfl (R.mono e2 _ hn))) (by rw [List.length_map]; omega) (fun x => rfl) fun d hd x B3 e3 rx => by
        obtain ⟨n, hnm, rfl⟩ := List.mem_map.mp hd
        have z := ed_lc1 (Pf := Pf) (B := B3) (σ := Ls s (some (.ref pd)) (some (.int (w : Int))) (some (.int (h : Int))) (some (.bl e)) (some (.ref gp)) r c (some nv) (some nrv) ar o' hr fh sd wy cb od mn lk a b (some x) ot pt k0) (j := 23) (vs := [23]) (wi := iList K (tDGet (tVar 9) (tVar 22))) (te := tPair (tVar 22) (tVar 23)) (ds := (nearL w h e n).map nodeD)
          (fun q => .tuple [nodeD n, q]) (itd_list (K := K) (ed_dgetT (eg_var rfl (mono_T _ _ _ (e2.trans e3) hr')) (fun B4 e4 => eg_var rfl (R.mono e4 _ rx)) (atD_near hnm))) (by rw [List.length_map]; exact Nat.le_trans (nearL_len w h e n) (by decide)) (fun x => rfl) fun q hq y B4 e4 ry =>
            ed_tup (ds := [nodeD n, q]) (ea_cons mono_D (eg_var rfl (R.mono e4 _ rx)) fun B5 e5 => ea_cons mono_D (eg_var rfl (R.mono e5 _ ry)) fun _ _ => ea_nil) (by show 2 ≤ 100000; decide)
        rw [List.map_map] at z
        exact z
    have em : (((gnodes w h).map nodeD).map fun d => PyData.list ((nearL w h e (nodeOf d)).map fun q => PyData.tuple [d, nodeD q])) = ((gnodes w h).map fun n => (nearL w h e n).map fun q => linkD (n, q)).map .list := by
      rw [List.map_map, List.map_map]
      rfl
    rw [em] at k1
    have k2 := flat_of (ds := []) k1 (by
      rw [links_flat L, List.length_map]
      exact Nat.le_trans (links_len w h e hs) (by decide))
    rw [links_flat L] at k2
    exact k2
theorem rd7 (x : DC Pf pd B H) (hs : Sml w h) (hn : R B nv (.list ((gnodes w h).map nodeD))) {g nr e : Option V}
    (k : ∀ hv n H', DC Pf pd B H' → n ∈ gnodes w h → R B hv (nodeD n) → tz D (Ls s (some (.ref pd)) (some (.int (w : Int))) (some (.int (h : Int))) e g r c (some nv) nr ar o' (some hv) fh sd wy cb od mn lk a b nd ot pt k0) H') :
    tSeq (tAsg (tOp (rIxL K) (tVar 8) (tRoll (tCB (rLen K) (tCons (tVar 8) tNil)))) (gName 12)) tz D (Ls s (some (.ref pd)) (some (.int (w : Int))) (some (.int (h : Int))) e g r c (some nv) nr ar o' hr fh sd wy cb od mn lk a b nd ot pt k0) H := by
  have gl : ((gnodes w h).map nodeD).length = h * w := by rw [List.length_map, gnodes_len]
  have g1 : 0 < h * w := Nat.mul_pos hs.2.2.1 hs.1
  have g2 : h * w ≤ 16 := Nat.mul_le_mul hs.2.2.2 hs.2.1
  refine ⟨nv, rfl, rd_roll (m := (((gnodes w h).map nodeD).length : Int)) x (ev_lenL (eg_var rfl hn)) (by omega) (by omega) rfl fun i H1 x1 i0 i1 => ?_⟩
  obtain ⟨i, rfl⟩ := toN i0
  obtain ⟨la, xs, rfl, hl, hx⟩ := R.lst_inv hn
  have hi : i < (gnodes w h).length := by rw [gnodes_len]; omega
  have hat : ((gnodes w h).map nodeD)[i]? = some (nodeD (gnodes w h)[i]) := by rw [List.getElem?_map, List.getElem?_eq_getElem hi]; rfl
  obtain ⟨v, hv, rv⟩ := hx.get hat
  exact ⟨la, xs, (i : Int), v, rfl, rfl, SqL.of (x1.sb.at hl), atI_nat hv, k v _ H1 x1 (List.getElem_mem hi) rv⟩
theorem rd8 (x : DC Pf pd B H) (L : GLaw w h e) {n : Int × Int} {hv : V} {w0 h0 e' g : Option V} (hr' : rT (ndT (nearN w h e)) nrv B) (hn : n ∈ gnodes w h) (hh : R B hv (nodeD n))
    (k : ∀ fv B' H', Ex B B' → DC Pf pd B' H' → rT (ksD pkey (resG w h e n)) fv B' → tz D (Ls s (some (.ref pd)) w0 h0 e' g r c (some nv) (some nrv) ar o' (some hv) (some fv) sd wy cb od mn lk a b nd ot pt k0) H') :
    tSeq (tAsg (tCall (Pr Pf preFT) [] E00 (tCons (tVar 9) (tCons (tVar 12) tNil))) (gName 13)) tz D (Ls s (some (.ref pd)) w0 h0 e' g r c (some nv) (some nrv) ar o' (some hv) fh sd wy cb od mn lk a b nd ot pt k0) H := by
  refine q_asgG (B := B) (r := rT (ksD pkey (resG w h e n))) (eg_call (rs := [rT (ndT (nearN w h e)), rD (nodeD n)]) (ea_cons mono_T (eg_var rfl hr') fun B2 e2 => ea_cons mono_D (eg_var rfl (R.mono e2 _ hh)) fun _ _ => ea_nil) fun vs B2 e2 hv => ?_) x.sb fun v B' H' t r => k v B' H' t.bas (x.tr t) r
  match vs, hv with
  | [v1, v2], ⟨g1, g2, _⟩ => exact ⟨v1, v2, nearN w h e, n, 40, _, rfl, g1, g2, L.run n hn, rfl⟩
theorem et9 (hs : Sml w h) (L : GLaw w h e) {n : Int × Int} {hv fv : V} (hg : GB C B gp w h e) (hn : R B nv (.list ((gnodes w h).map nodeD))) (hnm : n ∈ gnodes w h) (hh : R B hv (nodeD n)) (hf : rT (ksD pkey (resG w h e n)) fv B) {nr : Option V} :
    EvT Pf (tNeD K (tLc (iList K (tVar 8)) (gName 22) (tt9 Pf C) (tVar 22) [22]) tNil') (Ls s (some (.ref pd)) (some (.int (w : Int))) (some (.int (h : Int))) (some (.bl e)) (some (.ref gp)) r c (some nv) nr ar o' (some hv) (some fv) sd wy cb od mn lk a b nd ot pt k0) B false := by
  refine et_empty (itd_list (K := K) (eg_var rfl hn)) ?_ (fun x => rfl) fun d hd x B1 e1 rx => ?_
  · rw [List.length_map, gnodes_len]
    have := Nat.mul_le_mul hs.2.2.2 hs.2.1
    omega
  · obtain ⟨q, hqm, rfl⟩ := List.mem_map.mp hd
    have hg1 := hg.mono e1
    obtain ⟨dx, hp⟩ := id hg1
    have hh1 := R.mono e1 _ hh
    have hd1 : ∀ {σ : L2.St}, σ[13]? = some (some fv) → σ[22]? = some (some x) → Ev Pf (tDGet (tVar 13) (tVar 22)) σ B1 (.int (farG w h e n q)) := fun s1 s2 =>
      ev_int (ed_dgetT (eg_var s1 (mono_T _ _ _ e1 hf)) (fun B3 e3 => eg_var s2 (R.mono e3 _ rx)) (by rw [getI_ks (fun a b => pkey_inj), L.far n hnm q hqm]; rfl))
    refine et_is (a := false || false) (et_or (et_is (et_test (ev_op (ev_eg (eg_meth (r := rV (.int (farG w h e n q))) (rs := [rD (nodeD n), rD (nodeD q)]) (ev_var rfl) hp gF_no' (ea_cons mono_D (eg_var rfl hh1) fun B2 e2 => ea_cons mono_D (eg_var rfl (R.mono e2 _ rx)) fun _ _ => ea_nil) fun vs B2 e2 hv => ?_)) (hd1 rfl rfl) (rv_ne rfl))) (by simp)) fun _ =>
      et_is (et_test (ev_op (ev_eg (eg_call (r := rV (.int (farG w h e n q))) (rs := [rV (.ref gp), rD (nodeD n), rD (nodeD q)]) (ea_cons mono_V (eg_ev (ev_var rfl) rfl) fun B2 e2 => ea_cons mono_D (eg_var rfl (R.mono e2 _ hh1)) fun B3 e3 => ea_cons mono_D (eg_var rfl (R.mono (e2.trans e3) _ rx)) fun _ _ => ea_nil) fun vs B2 e2 hv => ?_)) (hd1 rfl rfl) (rv_ne rfl))) (by simp)) rfl
    · match vs, hv with
      | [v1, v2], ⟨g1, g2, _⟩ => exact ⟨gp, w, h, e, n, q, v1, v2, rfl, hg1.mono e2, g1, g2, rfl⟩
    · match vs, hv with
      | [v0, v1, v2], ⟨g0, g1, g2, _⟩ =>
        have g0 : v0 = .ref gp := g0
        subst g0
        exact ⟨gp, w, h, e, v1, v2, n, q, 40, _, _, rfl, hg1.mono e2, hs, g1, g2, L.steps n hnm, L.far n hnm q hqm, rfl⟩
theorem et10 (hs : Sml w h) (L : GLaw w h e) (hg : GB C B gp w h e) (hn : R B nv (.list ((gnodes w h).map nodeD))) (hr' : rT (ndT (nearN w h e)) nrv B) :
    EvT Pf (tTest (tOp rNe (tCall (Pr Pf (preW C (preGN C) (preGF C))) [] E00 (tCons (tVar 5) tNil)) (tCB (rMax K) (tCons (tLc (iList K (tVar 8)) (gName 22) tYes (te10 Pf K) [22]) tNil))))
      (Ls s (some (.ref pd)) (some (.int (w : Int))) (some (.int (h : Int))) (some (.bl e)) (some (.ref gp)) r c (some nv) (some nrv) ar o' hr fh sd wy cb od mn lk a b nd ot pt k0) B false := by
  obtain ⟨dx, hp⟩ := id hg
  have g1 : 0 < h * w := Nat.mul_pos hs.2.2.1 hs.1
  have g2 : h * w ≤ 16 := Nat.mul_le_mul hs.2.2.2 hs.2.1
  have gl : ((gnodes w h).map nodeD).length = h * w := by rw [List.length_map, gnodes_len]
  have ef : (((gnodes w h).map nodeD).flatMap fun a => ((gnodes w h).map nodeD).map fun b => farG w h e (nodeOf a) (nodeOf b)) = (gnodes w h).flatMap fun a => (gnodes w h).map (farG w h e a) := by
    rw [List.flatMap_map]
    congr 1
    funext a
    rw [List.map_map]
    rfl
  refine et_is (et_test (ev_op (x := .int (maxZ ((gnodes w h).flatMap fun a => (gnodes w h).map (farG w h e a)))) (y := .int (maxZ ((gnodes w h).map fun n => maxZ ((resG w h e n).map (·.2))))) (ev_eg (eg_call (rs := [rV (.ref gp)]) (ea_cons mono_V (eg_ev (ev_var rfl) rfl) fun _ _ => ea_nil) fun vs B2 e2 hv => ?_)) (ev_maxL ?_ ?_) (rv_ne rfl))) (by rw [L.wide]; simp)
  · match vs, hv with
    | [v0], ⟨g0, _⟩ =>
      have g0 : v0 = .ref gp := g0
      subst g0
      refine ⟨gp, dx, _, (gnodes w h).map nodeD, fun a b => farG w h e (nodeOf a) (nodeOf b), rfl, e2 _ _ hp, gF_no', gF_no', fun B3 e3 => ⟨gp, w, h, e, rfl, (hg.mono e2).mono e3, hs, rfl⟩, fun B3 a b x y ha hb e3 rx ry => ?_, by omega, by omega, by rw [ef]⟩
      obtain ⟨na, _, rfl⟩ := List.mem_map.mp ha
      obtain ⟨nb, _, rfl⟩ := List.mem_map.mp hb
      exact ⟨gp, w, h, e, na, nb, x, y, rfl, (hg.mono e2).mono e3, rx, ry, rfl⟩
  · have k1 := ed_lc1 (Pf := Pf) (B := B) (σ := Ls s (some (.ref pd)) (some (.int (w : Int))) (some (.int (h : Int))) (some (.bl e)) (some (.ref gp)) r c (some nv) (some nrv) ar o' hr fh sd wy cb od mn lk a b nd ot pt k0) (j := 22) (vs := [22]) (wi := iList K (tVar 8)) (te := te10 Pf K) (ds := (gnodes w h).map nodeD)
      (fun d => .int (maxZ ((resG w h e (nodeOf d)).map (·.2)))) (itd_list (K := K) (eg_var rfl hn)) (by omega) (fun x => rfl) fun d hd x B3 e3 rx => by
        obtain ⟨n, hnm, rfl⟩ := List.mem_map.mp hd
        refine ed_int (ev_maxT (m := ksD pkey (resG w h e n)) (eg_call (rs := [rT (ndT (nearN w h e)), rD (nodeD n)]) (ea_cons mono_T (eg_var rfl (mono_T _ _ _ e3 hr')) fun B2 e2 => ea_cons mono_D (eg_var rfl (R.mono e2 _ rx)) fun _ _ => ea_nil) fun vs B2 e2 hv => ?_) ?_ ?_)
        · match vs, hv with
          | [v1, v2], ⟨g1, g2, _⟩ => exact ⟨v1, v2, nearN w h e, n, 40, _, rfl, g1, g2, L.run n hnm, rfl⟩
        · unfold ksD
          rw [List.map_map, List.map_map]
          rfl
        · rw [List.length_map]
          exact L.pos n hnm
    rw [List.map_map] at k1
    have em : ((gnodes w h).map fun n => maxZ ((resG w h e n).map (·.2))).map PyData.int = (gnodes w h).map ((fun d => PyData.int (maxZ ((resG w h e (nodeOf d)).map (·.2)))) ∘ nodeD) := by rw [List.map_map]; rfl
    rw [em]
    exact k1
  · rw [List.length_map, gnodes_len]
    exact g1
end
end K18

set_option Elab.async false
set_option linter.all false
set_option maxRecDepth 100000
set_option maxHeartbeats 4000000
/-! Readings: the side, the cut, the steps past an end, the ways. -/
namespace K18
open PySem L2
theorem filter_sub0 {α : Type} [DecidableEq α] {s l : List α} (h : s.Sublist l) (hn : l.Nodup) : (l.filter fun a => decide (a ∈ s)) = s := by
  induction h with
  | slnil => rfl
  | @cons s l a h ih =>
    have h1 := List.nodup_cons.mp hn
    have ha : ¬ a ∈ s := fun z => h1.1 (h.subset z)
    rw [List.filter_cons_of_neg (by simpa using ha)]
    exact ih h1.2
  | @cons_cons s l a h ih =>
    have h1 := List.nodup_cons.mp hn
    rw [List.filter_cons_of_pos (by simp)]
    congr 1
    refine Eq.trans (List.filter_congr (q := fun b => decide (b ∈ s)) fun b hb => ?_) (ih h1.2)
    have hba : b ≠ a := fun z => h1.1 (z ▸ hb)
    simp [hba]
theorem filter_sub {α : Type} [DecidableEq α] {s l : List α} {p : α → Bool} (h : s.Sublist l) (hn : l.Nodup) (hp : ∀ a, p a = true ↔ a ∈ s) : l.filter p = s := by
  rw [← filter_sub0 h hn]
  rw [filter_sub0 h hn]
  conv => rhs; rw [← filter_sub0 h hn]
  apply List.filter_congr
  intro a _
  rw [Bool.eq_iff_iff, hp a]
  simp
theorem sum_filter {α : Type} [DecidableEq α] (p : α → Bool) (g : α → Nat) : ∀ l : List α, (l.map fun a => if p a then g a else 0).sum = ((l.filter p).map g).sum
  | [] => rfl
  | a :: l => by
    have ih := sum_filter p g l
    cases h : p a with
    | true => rw [List.filter_cons_of_pos h, List.map_cons, List.map_cons, List.sum_cons, List.sum_cons, ih, h, if_pos rfl]
    | false => rw [List.filter_cons_of_neg (by rw [h]; decide), List.map_cons, List.sum_cons, ih, h, if_neg Bool.false_ne_true, Nat.zero_add]
theorem cut_law {w h : Nat} {e : Bool} (L : GLaw w h e) (hs : Sml w h) {side : List (Int × Int)} (hsub : side.Sublist (gnodes w h)) :
    cutG w h e side = (side.map fun n => ((nearL w h e n).filter fun q => !decide (q ∈ side)).length).sum := by
  have hnd := gnodes_nodup w hs.2.1 h hs.2.2.2
  unfold cutG linksG
  rw [List.filter_flatMap, List.length_flatMap]
  have e1 : ((gnodes w h).map fun n => ((nearG w h e n).map fun q => (n, q)).filter (fun l => decide (l.1 ∈ side) && !decide (l.2 ∈ side)) |>.length) = (gnodes w h).map fun n => if decide (n ∈ side) then ((nearL w h e n).filter fun q => !decide (q ∈ side)).length else 0 := by
    apply List.map_congr_left
    intro n hn
    rw [L.near n hn, List.filter_map, List.length_map]
    cases hd : decide (n ∈ side) with
    | true =>
      rw [if_pos rfl]
      congr 2
      funext q
      show (decide (n ∈ side) && !decide (q ∈ side)) = _
      rw [hd, Bool.true_and]
    | false =>
      rw [if_neg Bool.false_ne_true, List.length_eq_zero_iff, List.filter_eq_nil_iff]
      intro q _
      show ¬ (decide (n ∈ side) && !decide (q ∈ side)) = true
      rw [hd]
      simp
  have e1' := congrArg List.sum e1
  refine e1'.trans ?_
  rw [sum_filter (fun n => decide (n ∈ side)), filter_sub hsub hnd (fun a => decide_eq_true_iff)]
section
variable {Pf pd : Addr} {P : Program} {w' : World} {K : PySem.W.Frag} {mg : Str → Option Value} {base : Heap} {B B' H H' : Hp} {σ : L2.St} {tm te : TE} {tt : TT} {tz : TS} {D : Ends} {p : Addr} {o : HO} {wi : TI} {ds : List PyData}
theorem rd_roll2 {m : Int} {Q : VK} (x : DC Pf pd B H) (hm : Ev Pf tm σ B (.int m)) (h0 : 0 < m) (h1 : m < 1000) (hσ : σ[1]? = some (some (.ref pd))) (k : ∀ i H', DC Pf pd B H' → 0 ≤ i → i < m → (∀ a o, a ≠ pd → a ≠ Pf → H a = some o → H' a = some o) → Q (.int i) H') : tRoll tm σ H Q := by
  refine ⟨_, hσ, hm H x.sb _ fun H1 a1 => ?_⟩
  have x1 := x.ax a1
  obtain ⟨a, b, c, h⟩ := x1.hd
  refine ⟨pd, m, a, b, c, rfl, h, h0, h1, fun i a' b' c' i0 i1 => k i _ ⟨x1.sb.mut x1.nb x1.np, x1.nb, ⟨a', b', c', upd_same⟩, x1.np⟩ i0 i1 fun u v n1 n2 hu => ?_⟩
  rw [upd_ne n1]
  exact a1.keep u v n2 hu
variable {s e0 g r c ar o' hr fh sd wy cb od mn lk a b nd ot pt k0 nr : Option V} {C : Addr} {gp : Addr} {w h : Nat} {e : Bool} {nv nrv : V}
theorem lc_run {g : TG} {vs : List Nat} {Q : VK} (hi : Itd Pf wi σ B ds) (e : Sb Pf B H) (k : ∀ B' H', Tr Pf B H B' H' → ∀ M, H' M = none → ∃ Pv : Nat → Hp → Prop, Pv 0 (upd H' M (.lst [])) ∧ (∀ i Hc, i ≤ ds.length → Pv i Hc → Ex B' Hc) ∧
    (∀ i d x Hc, ds[i]? = some d → R B' x d → Pv i Hc → g x (wipe σ vs) Hc fun σ2 H2 => wipe σ2 vs = wipe σ vs ∧ tt σ2 H2 fun b H3 => if b = true then te σ2 H3 fun y H4 => ∃ acc, H4 M = some (.lst acc) ∧ acc.length < sizeLine ∧ Pv (i + 1) (upd H4 M (.lst (acc ++ [y]))) else Pv (i + 1) H3) ∧
    ∀ Hc, Pv ds.length Hc → Q (.ref M) Hc) : tLc wi g tt te vs σ H Q := hi H e _ fun J G Y B' H' t w hG hY M hM => by
  obtain ⟨Pv, h0, hx, hs, hd⟩ := k B' H' t M hM
  refine lc_it w Pv h0 (fun i Hc hi p => hG Hc (hx i Hc hi p)) (fun i x Hc H4 hi p y => ?_) hd
  obtain ⟨e4, d, h1, h2⟩ := hY i Hc x H4 hi (hx i Hc (Nat.le_of_lt hi) p) y
  subst e4
  exact hs i d x H4 h1 h2 p
theorem q_lc {wi : TI} {g : TG} {vs : List Nat} {j : Nat} (h : tLc wi g tt te vs σ H (fun v H' => tz D (σ.set j (some v)) H')) : tSeq (tAsg (tLc wi g tt te vs) (gName j)) tz D σ H := h
theorem rd11 (x : DC Pf pd B H) (hs : Sml w h) (hn : R B nv (.list ((gnodes w h).map nodeD))) {w0 h0 : Option V}
    (k : ∀ (sv : V) (side : List (Int × Int)) B' H', Ex B B' → DC Pf pd B' H' → side.Sublist (gnodes w h) → R B' sv (.list (side.map nodeD)) → tz D (Ls s (some (.ref pd)) w0 h0 e0 g r c (some nv) nr ar o' hr fh (some sv) wy cb od mn lk a b nd ot pt k0) H') :
    tSeq (tAsg (tLc (iList K (tVar 8)) (gName 22) (tEq (tRoll (tI 2)) (tI 0)) (tVar 22) [22]) (gName 14)) tz D (Ls s (some (.ref pd)) w0 h0 e0 g r c (some nv) nr ar o' hr fh sd wy cb od mn lk a b nd ot pt k0) H := by
  have gl : ((gnodes w h).map nodeD).length = h * w := by rw [List.length_map, gnodes_len]
  have g2 : h * w ≤ 16 := Nat.mul_le_mul hs.2.2.2 hs.2.1
  refine q_lc (lc_run (itd_list (K := K) (eg_var rfl hn)) x.sb fun B1 H1 t M hM => ?_)
  have x1 := x.tr t
  have nM := x1.sb.ne hM
  have npM : pd ≠ M := fun z => by
    obtain ⟨_, _, _, q⟩ := x1.hd
    rw [z, hM] at q
    cases q
  have bM := x1.sb.fresh hM
  refine ⟨fun i Hc => ∃ acc side, DC Pf pd B1 Hc ∧ Hc M = some (.lst acc) ∧ Rs B1 acc (side.map nodeD) ∧ side.Sublist ((gnodes w h).take i),
    ⟨[], [], x1.mut bM nM npM, upd_same, .nil, List.nil_sublist _⟩, fun i Hc _ ⟨acc, side, h1, _⟩ => h1.sb.ex, ?_, ?_⟩
  · rintro i d y Hc hd ry ⟨acc, side, xc, hc, rc, hsub⟩
    rw [List.getElem?_map] at hd
    cases hz : (gnodes w h)[i]? with
    | none =>
      rw [hz] at hd
      cases hd
    | some n =>
      rw [hz] at hd
      have hd := Option.some.inj hd
      subst hd
      refine ⟨rfl, ?_⟩
      refine rd_roll2 (m := 2) xc ev_c (by decide) (by decide) rfl fun j H5 x5 j0 j1 keep => ⟨rfl, _, rfl, ?_⟩
      have h5 := keep M _ (Ne.symm npM) nM hc
      have htk : (gnodes w h).take (i + 1) = (gnodes w h).take i ++ [n] := by
        rw [List.take_add_one, hz]
        rfl
      have hlen : acc.length ≤ 16 := by
        rw [rc.length, List.length_map]
        refine Nat.le_trans hsub.length_le ?_
        rw [List.length_take, gnodes_len]
        omega
      refine ite2 (fun _ => ?_) (fun _ => ?_)
      · refine ⟨_, rfl, acc, h5, sz_lt (by omega), acc ++ [y], side ++ [n], x5.mut bM nM npM, upd_same, ?_, ?_⟩
        · rw [List.map_append]
          exact rc.snoc ry
        · rw [htk]
          exact hsub.append (List.Sublist.refl _)
      · refine ⟨acc, side, x5, h5, rc, ?_⟩
        rw [htk]
        exact hsub.trans (List.sublist_append_left _ _)
  · rintro Hc ⟨acc, side, xc, hc, rc, hsub⟩
    rw [List.length_map, List.take_of_length_le (Nat.le_refl _)] at hsub
    exact k (.ref M) side (upd B1 M (.lst acc)) Hc (t.bas.trans (Ex.new bM)) (xc.take hc nM npM) hsub (.lst upd_same (rc.mono (Ex.new bM)))
theorem len_flat (ls : List (List PyData)) : ls.flatten.length = (ls.map List.length).sum := by rw [List.length_flatten]
theorem et12 (hs : Sml w h) (L : GLaw w h e) {sv : V} {side : List (Int × Int)} (hsub : side.Sublist (gnodes w h)) (hg : GB C B gp w h e) (hr' : rT (ndT (nearN w h e)) nrv B) (hsd : R B sv (.list (side.map nodeD))) {n0 : Option V} :
    EvT Pf (tNe (tCall (Pr Pf (preK C)) [] E00 (tCons (tVar 5) (tCons (tVar 14) tNil))) (tCB (rLen K) (tCons (tCall (Pr Pf preFl) [] E00 (tCons (tLc (iList K (tVar 14)) (gName 22) tYes (te12 K) [22]) tNil)) tNil)))
      (Ls s (some (.ref pd)) (some (.int (w : Int))) (some (.int (h : Int))) (some (.bl e)) (some (.ref gp)) r c n0 (some nrv) ar o' hr fh (some sv) wy cb od mn lk a b nd ot pt k0) B false := by
  have g2 : h * w ≤ 16 := Nat.mul_le_mul hs.2.2.2 hs.2.1
  have sl : side.length ≤ 16 := Nat.le_trans hsub.length_le (by rw [gnodes_len]; exact g2)
  have hsum : ((side.map fun n => ((nearL w h e n).filter fun q => !decide (q ∈ side)).map fun _ => PyData.int 1).map List.length).sum = cutG w h e side := by
    rw [cut_law L hs hsub, List.map_map]
    congr 1
    apply List.map_congr_left
    intro n _
    show (((nearL w h e n).filter fun q => !decide (q ∈ side)).map fun _ => PyData.int 1).length = _
    rw [List.length_map]
  have k1 := ed_lc1 (Pf := Pf) (B := B) (σ := Ls s (some (.ref pd)) (some (.int (w : Int))) (some (.int (h : Int))) (some (.bl e)) (some (.ref gp)) r c n0 (some nrv) ar o' hr fh (some sv) wy cb od mn lk a b nd ot pt k0) (j := 22) (vs := [22]) (wi := iList K (tVar 14)) (te := te12 K) (ds := side.map nodeD)
      (fun d => .list (((nearL w h e (nodeOf d)).filter fun q => !decide (q ∈ side)).map fun _ => .int 1)) (itd_list (K := K) (eg_var rfl hsd)) (by rw [List.length_map]; omega) (fun x => rfl) fun d hd x B3 e3 rx => by
        obtain ⟨n, hnm, rfl⟩ := List.mem_map.mp hd
        have z := ed_lc (Pf := Pf) (B := B3) (σ := Ls s (some (.ref pd)) (some (.int (w : Int))) (some (.int (h : Int))) (some (.bl e)) (some (.ref gp)) r c n0 (some nrv) ar o' hr fh (some sv) wy cb od mn lk a b (some x) ot pt k0) (j := 23) (vs := [23]) (wi := iList K (tDGet (tVar 9) (tVar 22))) (tt := tTest (tOp (rNotInD K) (tVar 23) (tVar 14))) (te := tI 1) (ds := (nearL w h e n).map nodeD)
          (fun d => !((side.map nodeD).any fun z => PyData.eqv z d)) (fun _ => .int 1) (itd_list (K := K) (ed_dgetT (eg_var rfl (mono_T _ _ _ e3 hr')) (fun B4 e4 => eg_var rfl (R.mono e4 _ rx)) (atD_near (hsub.subset hnm)))) (by rw [List.length_map]; exact Nat.le_trans (nearL_len w h e n) (by decide)) (fun x => rfl)
          (fun q hq y B4 e4 ry => by
            obtain ⟨qq, _, rfl⟩ := List.mem_map.mp hq
            exact et_ninD (eg_var rfl ry) (fun B5 e5 => eg_var rfl (R.mono ((e3.trans e4).trans e5) _ hsd)) ((shp_node _).ok (by decide)) ((shp_nodes side).ok (by decide)))
          (fun q hq _ y B4 e4 ry => eg_c (.int 1))
        rw [filter_map_inj (f := nodeD) (u := fun q => !decide (q ∈ side)) (g := fun _ => PyData.int 1) (fun q _ => by rw [any_inj inj_node, Bool.eq_iff_iff]; simp only [Bool.not_eq_true', decide_eq_false_iff_not]) (fun _ _ _ => rfl)] at z
        exact z
  have em : ((side.map nodeD).map fun d => PyData.list (((nearL w h e (nodeOf d)).filter fun q => !decide (q ∈ side)).map fun _ => PyData.int 1)) = (side.map fun n => ((nearL w h e n).filter fun q => !decide (q ∈ side)).map fun _ => PyData.int 1).map .list := by
    rw [List.map_map, List.map_map]
    rfl
  rw [em] at k1
  have bnd : cutG w h e side ≤ 64 := Nat.le_trans (List.length_filter_le _ _) (links_len w h e hs)
  have k2 := flat_of (ds := []) k1 (by rw [len_flat, hsum]; omega)
  refine et_is (et_test (ev_op (x := .int (cutG w h e side : Nat)) (ev_eg (eg_call (rs := [rV (.ref gp), rD (.list (side.map nodeD))]) (ea_cons mono_V (eg_ev (ev_var rfl) rfl) fun B2 e2 => ea_cons mono_D (eg_var rfl (R.mono e2 _ hsd)) fun _ _ => ea_nil) fun vs B2 e2 hv => ?_)) (ev_lenL k2) (rv_ne rfl))) (by rw [len_flat, hsum]; simp)
  match vs, hv with
  | [v0, v1], ⟨g0, g1, _⟩ =>
    have g0 : v0 = .ref gp := g0
    subst g0
    exact ⟨gp, w, h, e, v1, side, rfl, hg.mono e2, hs, g1, rfl⟩
theorem et13 (hs : Sml w h) (L : GLaw w h e) (hg : GB C B gp w h e) {n0 : Option V} :
    EvT Pf (tOr (tNeD K (tStep Pf C "west") (tIf (tB (tVar 4)) (tPair (tSub (tVar 2) (tI 1)) (tI 0)) (tC .non)))
      (tNeD K (tStep Pf C "south") (tIf (tOr (tB (tVar 4)) (tTest (tOp (rI0 fun i j => .bl (decide (i > j))) (tVar 3) (tI 1)))) (tPair (tI 0) (tMod (tI 1) (tVar 3))) (tC .non))))
      (Ls s (some (.ref pd)) (some (.int (w : Int))) (some (.int (h : Int))) (some (.bl e)) (some (.ref gp)) r c n0 nr ar o' hr fh sd wy cb od mn lk a b nd ot pt k0) B false := by
  have pr : ∀ {x y : TE} {σ : L2.St} {i j : Int} {B2 : Hp}, Ev Pf x σ B2 (.int i) → Ev Pf y σ B2 (.int j) → Ed Pf (tPair x y) σ B2 (nodeD (i, j)) := fun hx hy =>
    ed_tup (ds := [.int _, .int _]) (ea_cons mono_D (ed_int hx) fun B3 e3 => ea_cons mono_D (ed_int (hy.mono e3)) fun _ _ => ea_nil) (by show 2 ≤ 100000; decide)
  have st : ∀ {σ : L2.St} {x : Str} {d : Int × Int}, σ[5]? = some (some (.ref gp)) → (x, d) ∈ ways → Ed Pf (tStep Pf C x) σ B (optD (stepG w h e (0, 0) d)) := fun {σ x d} h5 hw => by
    obtain ⟨dx, hp⟩ := id hg
    exact eg_meth (rs := [rD (nodeD (0, 0)), rV (.str x)]) (ev_var h5) hp gF_no' (ea_cons mono_D (pr ev_c ev_c) fun B2 e2 => ea_cons mono_V (eg_ev ev_c rfl) fun _ _ => ea_nil) fun vs B2 e2 hv => by
      match vs, hv with
      | [v0, v1], ⟨g0, g1, _⟩ =>
        have g1 : v1 = .str x := g1
        subst g1
        exact ⟨gp, w, h, e, (0, 0), d, v0, x, rfl, hg.mono e2, hs, g0, hw, rfl⟩
  have fin : ∀ {a b : Option (Int × Int)}, a = b → (!PyData.eqv (optD a) (optD b)) = false := fun {a b} hab => by
    rw [inj_opt a b, hab]
    simp
  refine et_is (a := false || false) (et_or (et_is (et_neD (d := optD _) (e := optD (if e then some ((w : Int) - 1, 0) else none)) (st rfl (d := (0 - 1, 0)) (by unfold ways; simp)) (fun B2 e2 => ?_) ((shp_opt _).ok (by decide)) ((shp_opt _).ok (by decide))) (fin L.west)) fun _ =>
    et_is (et_neD (d := optD _) (e := optD (if e || decide ((h : Int) > 1) then some (0, 1 % (h : Int)) else none)) (st rfl (d := (0, 1)) (by unfold ways; simp)) (fun B2 e2 => ?_) ((shp_opt _).ok (by decide)) ((shp_opt _).ok (by decide))) (fin L.south)) rfl
  · refine eg_if (b := e) (et_B (ev_var rfl)) (fun he => ?_) (fun he => ?_)
    · subst he
      exact pr (ev_op (ev_var rfl) ev_c rv_I0) ev_c
    · subst he
      exact eg_c .non
  · refine eg_if (b := e || decide ((h : Int) > 1)) (et_or (et_B (ev_var rfl)) fun _ => et_test (ev_op (ev_var rfl) ev_c rv_I0)) (fun he => ?_) (fun he => ?_)
    · rw [he]
      have := hs.2.2.1
      exact pr ev_c (ev_op ev_c (ev_var rfl) (rv_I (by show (0 : Int) < (h : Int); omega)))
    · rw [he]
      exact eg_c .non
theorem rd14 (x : DC Pf pd B H) {w0 h0 n0 : Option V} (k : ∀ (n : Nat) H', 1 ≤ n → n ≤ 3 → DC Pf pd B H' → tz D (Ls s (some (.ref pd)) w0 h0 e0 g r c n0 nr ar o' hr fh sd (some (.int (n : Int))) cb od mn lk a b nd ot pt k0) H') :
    tSeq (tAsg (tAdd (tI 1) (tRoll (tI 3))) (gName 15)) tz D (Ls s (some (.ref pd)) w0 h0 e0 g r c n0 nr ar o' hr fh sd wy cb od mn lk a b nd ot pt k0) H := by
  refine rd_roll x ev_c (by decide) (by decide) rfl fun i H1 x1 i0 i1 => ⟨_, _, rfl, rfl, ?_⟩
  obtain ⟨i, rfl⟩ := toN i0
  have z := k (1 + i) H1 (by omega) (by omega) x1
  rw [show ((1 + i : Nat) : Int) = 1 + (i : Int) from by omega] at z
  exact z
end
end K18

set_option Elab.async false
set_option linter.all false
set_option maxRecDepth 100000
set_option maxHeartbeats 4000000
/-! Readings: the cube. -/
namespace K18
open PySem L2
def rgI (m : Nat) : List Int := (List.range m).map fun (i : Nat) => (0 + (i : Int))
theorem rgD_I (m : Nat) : rgD 0 m = (rgI m).map PyData.int := by
  unfold rgD rgI
  rw [List.map_map]
  rfl
theorem rgI_len (m : Nat) : (rgI m).length = m := by unfold rgI; rw [List.length_map, List.length_range]
theorem rgI_mem {m i : Nat} (h : i < m) : (i : Int) ∈ rgI m := List.mem_map.mpr ⟨i, List.mem_range.mpr h, by rw [Int.zero_add]⟩
theorem rgI_nodup (m : Nat) : (rgI m).Nodup := List.Pairwise.map _ (fun a b h z => h (by omega)) List.nodup_range
def partsN (x y : Int) : Nat := (([1, 2, 4] : List Int).filter fun p => !decide (x / p % 2 = y / p % 2)).length
def linkC (m : Nat) (x : Int) : List Int := (rgI m).filter fun y => decide (partsN x y = 1)
def linksC (m : Nat) : List (Int × List Int) := (rgI m).map fun x => (x, linkC m x)
def resC (m : Nat) (a : Int) : List (Int × Int) := (bfs (nearK (linksC m)) 40 [(a, 0)] [a]).getD []
structure CLaw (n : Nat) : Prop where
  sort : sortZ (grayF (n - 1)) = rgI (2 ^ n)
  near : ∀ x ∈ rgI (2 ^ n), nearC n x = linkC (2 ^ n) x
  wide : maxZ ((rgI (2 ^ n)).flatMap fun a => (rgI (2 ^ n)).map (farC n a)) = (n : Int)
  ring : ∀ k, k < 2 ^ n → ∃ a b, (grayF (n - 1))[(k + 1) % 2 ^ n]? = some a ∧ (grayF (n - 1))[k]? = some b ∧ b ∈ rgI (2 ^ n) ∧ a ∈ linkC (2 ^ n) b
  run : ∀ a ∈ rgI (2 ^ n), bfs (nearK (linksC (2 ^ n))) 40 [(a, 0)] [a] = some (resC (2 ^ n) a)
  far : ∀ a ∈ rgI (2 ^ n), ∀ b ∈ rgI (2 ^ n), getI (resC (2 ^ n) a) b = some (farC n a b)
theorem mergeD_nodup {κ : Type} [DecidableEq κ] : ∀ (ds m : List (κ × PyData)), (ds.map (·.1)).Nodup → (∀ k ∈ ds.map (·.1), ¬ k ∈ m.map (·.1)) → mergeD m ds = m ++ ds
  | [], m, _, _ => (List.append_nil m).symm
  | p :: ds, m, hn, hd => by
    have h1 := List.nodup_cons.mp hn
    show mergeD (putD m p.1 p.2) ds = _
    have e : putD m p.1 p.2 = m ++ [p] := by
      unfold putD
      rw [atD_no (hd p.1 List.mem_cons_self), if_neg (by simp)]
    rw [e, mergeD_nodup ds (m ++ [p]) h1.2, List.append_assoc]
    · rfl
    · intro k hk hm
      rw [List.map_append] at hm
      rcases List.mem_append.mp hm with z | z
      · exact hd k (List.mem_cons_of_mem _ hk) z
      · rw [List.mem_singleton.mp z] at hk
        exact h1.1 hk
theorem atD_link {m : Nat} {x : Int} (h : x ∈ rgI m) : atD (ndK (linksC m)) (Sum.inl x) = some (.list ((linkC m x).map .int)) := by
  have hz := atD_map (kf := (Sum.inl : Int → L2.Key)) (fun a b => ⟨fun h => Sum.inl.inj h, fun h => by rw [h]⟩) (fun l : List Int => PyData.list (l.map PyData.int)) x (linksC m)
  unfold linksC at hz
  rw [find_map _ x h] at hz
  exact hz
theorem shp_ints (l : List Int) : Shp 1 (.list (l.map .int)) := shp_map (k := 0) shp_int l
section
variable {Pf pd : Addr} {P : Program} {w' : World} {K : PySem.W.Frag} {mg : Str → Option Value} {base : Heap} {B B' H H' : Hp} {σ : L2.St} {tm te : TE} {tt : TT} {tz : TS} {D : Ends} {p : Addr} {o : HO} {wi : TI} {ds : List PyData}
variable {s w h e g r c n nr ar o' hr fh sd wy cb od mn lk a b nd ot pt k0 : Option V} {C CC CE : Addr} {cp : Addr} {N : Nat} {ov lv : V}
theorem rd15 (x : DC Pf pd B H) (h1 : 1 ≤ N) (h3 : N ≤ 3) (k : ∀ cp ov B' H', Ex B B' → DC Pf pd B' H' → CB CC B' cp N → R B' ov (.tuple ((grayF (N - 1)).map .int)) → tz D (Ls s (some (.ref pd)) w h e g r c n nr ar o' hr fh sd (some (.int (N : Int))) (some (.ref cp)) (some ov) mn lk a b nd ot pt k0) H') :
    tSeq (tAsg (tPair (tMake CC (spCI CC CE) [] E00 (tCons (tVar 15) tNil)) (tCall (Pr Pf preGy) [] E00 (tCons (tVar 15) tNil))) (gTup K 2 (gCons (gName 16) (gCons (gName 17) gNil)))) tz D
      (Ls s (some (.ref pd)) w h e g r c n nr ar o' hr fh sd (some (.int (N : Int))) cb od mn lk a b nd ot pt k0) H := by
  refine ⟨_, rfl, fun p dx hp hdx hne => ?_⟩
  refine ⟨p, dx, (N : Int), rfl, upd_same, fun z => absurd z (by omega), fun _ => ⟨rfl, ?_⟩⟩
  rw [upd_upd]
  have t1 : Tr Pf B H B (upd H dx (.own p)) := .side x.sb hdx
  have hp1 : (upd H dx (HO.own p)) p = none := by rw [upd_ne (Ne.symm hne)]; exact hp
  have t2 : Tr Pf B (upd H dx (.own p)) (upd B p (.ins CC dx (cF N))) (upd (upd H dx (.own p)) p (.ins CC dx (cF N))) := .new t1.sub hp1
  have t12 := t1.trans t2
  have z : Ed Pf (tCall (Pr Pf preGy) [] E00 (tCons (tVar 15) tNil)) (Ls s (some (.ref pd)) w h e g r c n nr ar o' hr fh sd (some (.int (N : Int))) cb od mn lk a b nd ot pt k0) (upd B p (.ins CC dx (cF N))) (.tuple ((grayF (N - 1)).map .int)) :=
    eg_call (rs := [rV (.int (N : Int))]) (ea_cons mono_V (eg_ev (ev_var rfl) rfl) fun _ _ => ea_nil) fun vs B2 e2 hv => by
      match vs, hv with
      | [v], ⟨g0, _⟩ =>
        have g0 : v = .int (N : Int) := g0
        subst g0
        exact ⟨N, rfl, h1, h3, rfl⟩
  refine z _ t12.sub _ fun v B3 H3 t3 r3 => ⟨by show 2 ≤ sizeLine; decide, fun q hq => ⟨q, _, rfl, SqT.of upd_same, rfl, _, _, rfl, _, _, rfl, rfl, ?_⟩⟩
  have t4 : Tr Pf B3 H3 B3 (upd H3 q (.tup [.ref p, v])) := .side t3.sub hq
  exact k p v B3 _ ((t12.trans t3).trans t4).bas (x.tr ((t12.trans t3).trans t4)) (CB.mono t3.bas ⟨dx, upd_same⟩) r3
theorem rd16 (x : DC Pf pd B H) (h1 : 1 ≤ N) (h3 : N ≤ 3) (k : ∀ H', DC Pf pd B H' → tz D (Ls s (some (.ref pd)) w h e g r c n nr ar o' hr fh sd (some (.int (N : Int))) cb od (some (.int ((2 ^ N : Nat) : Int))) lk a b nd ot pt k0) H') :
    tSeq (tAsg (tOp (rIxL K) (tLst (tCons (tI 2) (tCons (tI 4) (tCons (tI 8) tNil)))) (tSub (tVar 15) (tI 1))) (gName 18)) tz D (Ls s (some (.ref pd)) w h e g r c n nr ar o' hr fh sd (some (.int (N : Int))) cb od mn lk a b nd ot pt k0) H := by
  have hat : atI [PyData.int 2, PyData.int 4, PyData.int 8] ((N : Int) - 1) = some (.int ((2 ^ N : Nat) : Int)) := by
    have : N = 1 ∨ N = 2 ∨ N = 3 := by omega
    rcases this with e | e | e
    · subst e; rfl
    · subst e; rfl
    · subst e; rfl
  have z := ev_int (ed_ixL (K := K) (Pf := Pf) (σ := Ls s (some (.ref pd)) w h e g r c n nr ar o' hr fh sd (some (.int (N : Int))) cb od mn lk a b nd ot pt k0) (B := B) (ta := tLst (tCons (tI 2) (tCons (tI 4) (tCons (tI 8) tNil)))) (tb := tSub (tVar 15) (tI 1))
    (ed_lst (ds := [.int 2, .int 4, .int 8]) (ea_cons mono_D (eg_c (.int 2)) fun _ _ => ea_cons mono_D (eg_c (.int 4)) fun _ _ => ea_cons mono_D (eg_c (.int 8)) fun _ _ => ea_nil) (by show 3 ≤ 100000; decide)) (fun B' e' => ev_op (ev_var rfl) ev_c rv_I0) hat)
  exact z H x.sb _ fun H1 a1 => k H1 (x.ax a1)
theorem ed_rgM {M : Nat} (hm : M ≤ 8) (h18 : σ[18]? = some (some (.int (M : Int)))) : Ed Pf tRgM σ B (.list ((rgI M).map .int)) := by
  rw [← rgD_I]
  exact ed_lstRg (ev_var h18) (by omega)
theorem itd_rgM {M : Nat} (hm : M ≤ 8) (h18 : σ[18]? = some (some (.int (M : Int)))) : Itd Pf iRgM σ B ((rgI M).map .int) := by
  rw [← rgD_I]
  exact itd_range1 (ev_var h18) (by omega)
theorem et17 (h3 : N ≤ 3) (L : CLaw N) (hc : CB C B cp N) (ho : R B ov (.tuple ((grayF (N - 1)).map .int))) :
    EvT Pf (tOr (tNeD K (tMNodes K C (preCN C) Pf 16) tRgM) (tNeD K (tCB (rSortTI K) (tCons (tVar 17) tNil)) tRgM)) (Ls s (some (.ref pd)) w h e g r c n nr ar o' hr fh sd wy (some (.ref cp)) (some ov) (some (.int ((2 ^ N : Nat) : Int))) lk a b nd ot pt k0) B false := by
  obtain ⟨dx, hp⟩ := id hc
  have hm := pow_le h3
  refine et_is (a := false || false) (et_or (et_is (et_neD (d := .list ((rgI (2 ^ N)).map .int)) (ed_lstOf (K := K) ?_) (fun B2 e2 => ed_rgM hm rfl) ((shp_ints _).ok (by decide)) ((shp_ints _).ok (by decide))) (same_list inj_int _)) fun _ =>
    et_is (et_neD (ed_sortTI (K := K) (eg_var rfl ho)) (fun B2 e2 => ed_rgM hm rfl) ((shp_ints _).ok (by decide)) ((shp_ints _).ok (by decide))) (by rw [L.sort]; exact same_list inj_int _)) rfl
  rw [← rgD_I]
  refine eg_meth (rs := []) (ev_var rfl) hp (cF_no _ (by decide +kernel)) ea_nil fun vs B2 e2 hv => ?_
  match vs, hv with
  | [], _ => exact ⟨cp, N, rfl, hc.mono e2, h3, rfl⟩
theorem rd18 (x : DC Pf pd B H) (h3 : N ≤ 3) (k : ∀ lv B' H', Ex B B' → DC Pf pd B' H' → rK (ndK (linksC (2 ^ N))) lv B' → tz D (Ls s (some (.ref pd)) w h e g r c n nr ar o' hr fh sd wy cb od (some (.int ((2 ^ N : Nat) : Int))) (some lv) a b nd ot pt k0) H') :
    tSeq (tAsg (tCB (rDictPK K) (tCons (tLc iRgM (gName 22) tYes (tPair (tVar 22) (te18b K)) [22]) tNil)) (gName 19)) tz D (Ls s (some (.ref pd)) w h e g r c n nr ar o' hr fh sd wy cb od (some (.int ((2 ^ N : Nat) : Int))) lk a b nd ot pt k0) H := by
  have hm := pow_le h3
  have k1 := ed_lc1 (Pf := Pf) (B := B) (σ := Ls s (some (.ref pd)) w h e g r c n nr ar o' hr fh sd wy cb od (some (.int ((2 ^ N : Nat) : Int))) lk a b nd ot pt k0) (j := 22) (vs := [22]) (wi := iRgM) (te := tPair (tVar 22) (te18b K)) (ds := (rgI (2 ^ N)).map .int)
      (fun d => .tuple [d, .list ((linkC (2 ^ N) (intOf d)).map .int)]) (itd_rgM hm rfl) (by rw [List.length_map, rgI_len]; omega) (fun x => rfl) fun d hd y B1 e1 ry => by
        obtain ⟨i, _, rfl⟩ := List.mem_map.mp hd
        have ry := R.int_inv ry
        subst ry
        refine ed_tup (ds := [.int i, .list ((linkC (2 ^ N) i).map .int)]) (ea_cons mono_D (eg_var rfl (.int i)) fun B2 e2 => ea_cons mono_D ?_ fun _ _ => ea_nil) (by show 2 ≤ 100000; decide)
        have k2 := ed_lc (Pf := Pf) (B := B2) (σ := Ls s (some (.ref pd)) w h e g r c n nr ar o' hr fh sd wy cb od (some (.int ((2 ^ N : Nat) : Int))) lk a b (some (.int i)) ot pt k0) (j := 23) (vs := [23]) (wi := iRgM) (tt := tEq (tCB (rLen K) (tCons (te18a K) tNil)) (tI 1)) (te := tVar 23) (ds := (rgI (2 ^ N)).map .int)
          (fun d => decide (partsN i (intOf d) = 1)) (fun d => d) (itd_rgM hm rfl) (by rw [List.length_map, rgI_len]; omega) (fun x => rfl)
          (fun q hq z B3 e3 rz => by
            obtain ⟨j, _, rfl⟩ := List.mem_map.mp hq
            have rz := R.int_inv rz
            subst rz
            have k3 := ed_lc (Pf := Pf) (B := B3) (σ := Ls s (some (.ref pd)) w h e g r c n nr ar o' hr fh sd wy cb od (some (.int ((2 ^ N : Nat) : Int))) lk a b (some (.int i)) (some (.int j)) pt k0) (j := 24) (vs := [24]) (wi := iList K (tLst (tCons (tI 1) (tCons (tI 2) (tCons (tI 4) tNil))))) (tt := tt18) (te := tI 1) (ds := ([1, 2, 4] : List Int).map PyData.int)
              (fun d => !decide (i / intOf d % 2 = j / intOf d % 2)) (fun _ => .int 1) (itd_list (K := K) (ed_lst (ds := [.int 1, .int 2, .int 4]) (ea_cons mono_D (eg_c (.int 1)) fun _ _ => ea_cons mono_D (eg_c (.int 2)) fun _ _ => ea_cons mono_D (eg_c (.int 4)) fun _ _ => ea_nil) (by show 3 ≤ 100000; decide))) (by show 3 ≤ 50000; decide) (fun x => rfl)
              (fun u hu v B4 e4 rv => by
                obtain ⟨pp, hpp, rfl⟩ := List.mem_map.mp hu
                have rv := R.int_inv rv
                subst rv
                have hp0 : 0 < pp ∧ pp < 1073741824 := by
                  have : ∀ q ∈ ([1, 2, 4] : List Int), 0 < q ∧ q < 1073741824 := by decide
                  exact this pp hpp
                have m2 : (0 : Int) < 2 := by decide
                refine et_is (et_test (ev_op (ev_op (ev_op (ev_var rfl) (ev_var rfl) (rv_I hp0)) ev_c (rv_I m2)) (ev_op (ev_op (ev_var rfl) (ev_var rfl) (rv_I hp0)) ev_c (rv_I m2)) (rv_ne rfl))) ?_
                rw [Bool.eq_iff_iff]
                simp only [Bool.not_eq_true', decide_eq_false_iff_not, V.int.injEq, intOf]
                exact decide_eq_false_iff_not.symm)
              (fun u hu _ v B4 e4 rv => eg_c (.int 1))
            rw [filter_map_inj (f := PyData.int) (u := fun p => !decide (i / p % 2 = j / p % 2)) (g := fun _ => PyData.int 1) (fun _ _ => rfl) (fun _ _ _ => rfl)] at k3
            refine et_is (et_test (ev_op (ev_lenL k3) ev_c (rv_eq rfl))) ?_
            rw [List.length_map, Bool.eq_iff_iff]
            show decide _ = true ↔ decide (partsN i j = 1) = true
            unfold partsN
            simp only [decide_eq_true_eq, V.int.injEq]
            omega)
          (fun q hq _ z B3 e3 rz => eg_var rfl rz)
        rw [filter_map_inj (f := PyData.int) (u := fun y => decide (partsN i y = 1)) (g := PyData.int) (fun _ _ => rfl) (fun _ _ _ => rfl)] at k2
        exact k2
  have em : ((rgI (2 ^ N)).map PyData.int).map (fun d => PyData.tuple [d, .list ((linkC (2 ^ N) (intOf d)).map .int)]) = ((rgI (2 ^ N)).map fun i => (i, PyData.list ((linkC (2 ^ N) i).map .int))).map fun p => PyData.tuple [.int p.1, p.2] := by
    rw [List.map_map, List.map_map]
    rfl
  rw [em] at k1
  have k4 := eg_dictPK (K := K) k1
  have en : mergeD [] (((rgI (2 ^ N)).map fun i => (i, PyData.list ((linkC (2 ^ N) i).map .int))).map fun p => ((Sum.inl p.1 : L2.Key), p.2)) = ndK (linksC (2 ^ N)) := by
    rw [mergeD_nodup]
    · rw [List.nil_append, List.map_map]
      unfold ndK linksC
      rw [List.map_map]
      rfl
    · rw [List.map_map, List.map_map]
      exact List.Pairwise.map _ (fun a b hab z => hab (Sum.inl.inj z)) (rgI_nodup _)
    · intro q _ hq
      exact absurd hq List.not_mem_nil
  rw [en] at k4
  exact q_asgG (B := B) k4 x.sb fun v B' H' t r => k v B' H' t.bas (x.tr t) r
theorem et19 (h1 : 1 ≤ N) (h3 : N ≤ 3) (L : CLaw N) (hc : CB C B cp N) (hl : rK (ndK (linksC (2 ^ N))) lv B) :
    EvT Pf (tOr (tNeD K (tLc iRgM (gName 22) (tt19 Pf K C) (tVar 22) [22]) tNil') (tNe (tCall (Pr Pf (preW C (preCN C) (preCF C))) [] E00 (tCons (tVar 16) tNil)) (tVar 15)))
      (Ls s (some (.ref pd)) w h e g r c n nr ar o' hr fh sd (some (.int (N : Int))) (some (.ref cp)) od (some (.int ((2 ^ N : Nat) : Int))) (some lv) a b nd ot pt k0) B false := by
  have hm := pow_le h3
  have hc' := id hc
  obtain ⟨dx, hp⟩ := hc'
  refine et_is (a := false || false) (et_or (et_empty (itd_rgM hm rfl) (by rw [List.length_map, rgI_len]; omega) (fun x => rfl) fun d hd x B1 e1 rx => ?_) fun _ => et_is (et_test (ev_op (x := .int (N : Int)) (ev_eg (eg_call (rs := [rV (.ref cp)]) (ea_cons mono_V (eg_ev (ev_var rfl) rfl) fun _ _ => ea_nil) fun vs B2 e2 hv => ?_)) (ev_var rfl) (rv_ne rfl))) (by simp)) rfl
  · obtain ⟨i, hi, rfl⟩ := List.mem_map.mp hd
    have rx := R.int_inv rx
    subst rx
    refine et_is (et_neD (d := .list ((nearC N i).map .int)) (ed_lstOf (K := K) (eg_meth (rs := [rV (.int i)]) (ev_var rfl) (e1 _ _ hp) (cF_no _ (by decide +kernel)) (ea_cons mono_V (eg_ev (ev_var rfl) rfl) fun _ _ => ea_nil) fun vs B2 e2 hv => ?_)) (fun B2 e2 => ed_dgetK (k := Sum.inl i) (eg_var rfl (mono_K _ _ _ (e1.trans e2) hl)) (fun B3 e3 => ev_var rfl) (atD_link hi)) ((shp_ints _).ok (by decide)) ((shp_ints _).ok (by decide))) (by rw [L.near i hi]; exact same_list inj_int _)
    match vs, hv with
    | [v], ⟨g0, _⟩ =>
      have g0 : v = .int i := g0
      subst g0
      exact ⟨cp, N, i, rfl, (hc.mono e1).mono e2, h3, rfl⟩
  · match vs, hv with
    | [v], ⟨g0, _⟩ =>
      have g0 : v = .ref cp := g0
      subst g0
      have ef : (((rgI (2 ^ N)).map PyData.int).flatMap fun a => ((rgI (2 ^ N)).map PyData.int).map fun b => farC N (intOf a) (intOf b)) = (rgI (2 ^ N)).flatMap fun a => (rgI (2 ^ N)).map (farC N a) := by
        rw [List.flatMap_map]
        congr 1
        funext a
        rw [List.map_map]
        rfl
      refine ⟨cp, dx, _, (rgI (2 ^ N)).map PyData.int, fun a b => farC N (intOf a) (intOf b), rfl, e2 _ _ hp, cF_no _ (by decide +kernel), cF_no _ (by decide +kernel), fun B3 e3 => ⟨cp, N, rfl, (hc.mono e2).mono e3, h3, by rw [rgD_I]⟩, fun B3 a b x y ha hb e3 rx ry => ?_, ?_, ?_, by rw [ef, L.wide]⟩
      · obtain ⟨ia, _, rfl⟩ := List.mem_map.mp ha
        obtain ⟨ib, _, rfl⟩ := List.mem_map.mp hb
        have rx := R.int_inv rx
        have ry := R.int_inv ry
        subst rx ry
        exact ⟨cp, N, ia, ib, rfl, (hc.mono e2).mono e3, h3, rfl⟩
      · rw [List.length_map, rgI_len]
        exact Nat.pow_pos (by decide)
      · rw [List.length_map, rgI_len]
        omega
theorem et20 (h1 : 1 ≤ N) (h3 : N ≤ 3) (L : CLaw N) (ho : R B ov (.tuple ((grayF (N - 1)).map .int))) (hl : rK (ndK (linksC (2 ^ N))) lv B) :
    EvT Pf (tAnd (tNeD K (tLc iRgM (gName 25) (tt20 K) (tVar 25) [25]) tNil') (tTest (tOp (rI0 fun i j => .bl (decide (i > j))) (tVar 15) (tI 1))))
      (Ls s (some (.ref pd)) w h e g r c n nr ar o' hr fh sd (some (.int (N : Int))) cb (some ov) (some (.int ((2 ^ N : Nat) : Int))) (some lv) a b nd ot pt k0) B false := by
  have hm := pow_le h3
  have hpos : 0 < 2 ^ N := Nat.pow_pos (by decide)
  refine et_is (a := false && true) (et_and (et_empty (itd_rgM hm rfl) (by rw [List.length_map, rgI_len]; omega) (fun x => rfl) fun d hd x B1 e1 rx => ?_) fun hb => by cases hb) rfl
  obtain ⟨i, hi, rfl⟩ := List.mem_map.mp hd
  have rx := R.int_inv rx
  subst rx
  obtain ⟨q, hq, rfl⟩ := List.mem_map.mp hi
  have hq := List.mem_range.mp hq
  rw [Int.zero_add]
  obtain ⟨ga, gb, h1, h2, h4, h5⟩ := L.ring q hq
  have at1 : atI ((grayF (N - 1)).map PyData.int) (((q + 1) % 2 ^ N : Nat) : Int) = some (.int ga) := atI_nat (by rw [List.getElem?_map, h1]; rfl)
  have at2 : atI ((grayF (N - 1)).map PyData.int) (q : Int) = some (.int gb) := atI_nat (by rw [List.getElem?_map, h2]; rfl)
  have hmod : ((q : Int) + 1) % ((2 ^ N : Nat) : Int) = (((q + 1) % 2 ^ N : Nat) : Int) := by rw [Int.natCast_emod]; rfl
  refine et_is (et_ninD (d := .int ga) (ds := (linkC (2 ^ N) gb).map .int) (ed_ixT (i := (((q + 1) % 2 ^ N : Nat) : Int)) (eg_var rfl (R.mono e1 _ ho)) (fun B2 e2 => ev_is (ev_op (ev_op (ev_var rfl) ev_c rv_I0) (ev_var rfl) (rv_I (by show (0 : Int) < ((2 ^ N : Nat) : Int); omega))) (by rw [hmod])) at1)
    (fun B2 e2 => ed_dgetK (k := Sum.inl gb) (eg_var rfl (mono_K _ _ _ (e1.trans e2) hl)) (fun B3 e3 => ev_int (ed_ixT (i := (q : Int)) (eg_var rfl (R.mono ((e1.trans e2).trans e3) _ ho)) (fun B4 e4 => ev_var rfl) at2)) (atD_link h4)) ((shp_int (k := 0) _).ok (by decide)) ((shp_ints _).ok (by decide))) ?_
  rw [any_inj inj_int, decide_eq_true h5]
  rfl
theorem rd21 (x : DC Pf pd B H) (h3 : N ≤ 3) (k : ∀ (i : Nat) H', i < 2 ^ N → DC Pf pd B H' → tz D (Ls s (some (.ref pd)) w h e g r c n nr ar (some (.int (i : Int))) hr fh sd wy cb od (some (.int ((2 ^ N : Nat) : Int))) lk a b nd ot pt k0) H') :
    tSeq (tAsg (tRoll (tVar 18)) (gName 11)) tz D (Ls s (some (.ref pd)) w h e g r c n nr ar o' hr fh sd wy cb od (some (.int ((2 ^ N : Nat) : Int))) lk a b nd ot pt k0) H := by
  have hm := pow_le h3
  have hpos : 0 < 2 ^ N := Nat.pow_pos (by decide)
  refine rd_roll (m := ((2 ^ N : Nat) : Int)) x (ev_var rfl) (by omega) (by omega) rfl fun i H1 x1 i0 i1 => ?_
  obtain ⟨i, rfl⟩ := toN i0
  exact k i H1 (by omega) x1
theorem et22 (h3 : N ≤ 3) (L : CLaw N) {i : Nat} (hi : i < 2 ^ N) (hc : CB C B cp N) (hl : rK (ndK (linksC (2 ^ N))) lv B) :
    EvT Pf (tNeD K (tLc iRgM (gName 23) (tt22 Pf C) (tVar 23) [23]) tNil') (Ls s (some (.ref pd)) w h e g r c n nr ar (some (.int (i : Int))) hr fh sd wy (some (.ref cp)) od (some (.int ((2 ^ N : Nat) : Int))) (some lv) a b nd ot pt k0) B false := by
  have hm := pow_le h3
  have him := rgI_mem hi
  obtain ⟨dx, hp⟩ := id hc
  refine et_empty (itd_rgM hm rfl) (by rw [List.length_map, rgI_len]; omega) (fun x => rfl) fun d hd x B1 e1 rx => ?_
  obtain ⟨j, hj, rfl⟩ := List.mem_map.mp hd
  have rx := R.int_inv rx
  subst rx
  refine et_is (et_test (ev_op (x := .int (farC N i j)) (y := .int (farC N i j)) (ev_eg (eg_meth (rs := [rV (.int (i : Int)), rV (.int j)]) (ev_var rfl) (e1 _ _ hp) (cF_no _ (by decide +kernel)) (ea_cons mono_V (eg_ev (ev_var rfl) rfl) fun _ _ => ea_cons mono_V (eg_ev (ev_var rfl) rfl) fun _ _ => ea_nil) fun vs B2 e2 hv => ?_))
    (ev_int (ed_dgetK (k := Sum.inl j) (m := ksD Sum.inl (resC (2 ^ N) i)) (eg_call (rs := [rK (ndK (linksC (2 ^ N))), rD (.int (i : Int))]) (ea_cons mono_K (eg_var rfl (mono_K _ _ _ e1 hl)) fun B2 e2 => ea_cons mono_D (eg_var rfl (.int _)) fun _ _ => ea_nil) fun vs B2 e2 hv => ?_) (fun B3 e3 => ev_var rfl) ?_)) (rv_ne rfl))) (by simp)
  · match vs, hv with
    | [v0, v1], ⟨g0, g1, _⟩ =>
      have g0 : v0 = .int (i : Int) := g0
      have g1 : v1 = .int j := g1
      subst g0 g1
      exact ⟨cp, N, i, j, rfl, (hc.mono e1).mono e2, h3, rfl⟩
  · match vs, hv with
    | [v0, v1], ⟨g0, g1, _⟩ => exact ⟨v0, v1, linksC (2 ^ N), (i : Int), 40, _, rfl, g0, g1, L.run _ him, rfl⟩
  · rw [getI_ks (kf := (Sum.inl : Int → L2.Key)) (fun a b => ⟨fun h => Sum.inl.inj h, fun h => by rw [h]⟩), L.far _ him j hj]
    rfl
end
end K18

set_option Elab.async false
set_option linter.all false
set_option maxRecDepth 100000
set_option maxHeartbeats 0
/-! The plain law: every grid, every cube, by computing. -/
namespace K18
open PySem L2
def chkG (w h : Nat) (e : Bool) : Bool :=
  (gnodes w h).all (fun n => decide (nearG w h e n = nearL w h e n)) &&
  (gnodes w h).all (fun a => decide (bfs (nearT (nearN w h e)) 40 [(a, 0)] [a] = some (resG w h e a)) && decide (bfs (fun n => some (nearG w h e n)) 40 [(a, 0)] [a] = some (resG w h e a)) &&
    (gnodes w h).all (fun n => decide (getI (resG w h e a) n = some (farG w h e a n))) && decide (0 < (resG w h e a).length)) &&
  decide (maxZ ((gnodes w h).flatMap fun a => (gnodes w h).map (farG w h e a)) = maxZ ((gnodes w h).map fun n => maxZ ((resG w h e n).map (·.2)))) &&
  decide (stepG w h e (0, 0) (0 - 1, 0) = if e then some ((w : Int) - 1, 0) else none) &&
  decide (stepG w h e (0, 0) (0, 1) = if e || decide ((h : Int) > 1) then some (0, 1 % (h : Int)) else none)
theorem of_chkG {w h : Nat} {e : Bool} (c : chkG w h e = true) : GLaw w h e := by
  unfold chkG at c
  simp only [Bool.and_eq_true, List.all_eq_true, decide_eq_true_eq] at c
  obtain ⟨⟨⟨⟨c1, c2⟩, c3⟩, c4⟩, c5⟩ := c
  exact ⟨c1, fun a ha => (c2 a ha).1.1.1, fun a ha => (c2 a ha).1.1.2, fun a ha => (c2 a ha).1.2, fun a ha => (c2 a ha).2, c3, c4, c5⟩
theorem g1t : ([1, 2, 3, 4] : List Nat).all (fun h => chkG 1 h true) = true := by decide +kernel
theorem g1f : ([1, 2, 3, 4] : List Nat).all (fun h => chkG 1 h false) = true := by decide +kernel
theorem g2t : ([1, 2, 3, 4] : List Nat).all (fun h => chkG 2 h true) = true := by decide +kernel
theorem g2f : ([1, 2, 3, 4] : List Nat).all (fun h => chkG 2 h false) = true := by decide +kernel
theorem g3t : ([1, 2, 3, 4] : List Nat).all (fun h => chkG 3 h true) = true := by decide +kernel
theorem g3f : ([1, 2, 3, 4] : List Nat).all (fun h => chkG 3 h false) = true := by decide +kernel
theorem g4t : ([1, 2, 3, 4] : List Nat).all (fun h => chkG 4 h true) = true := by decide +kernel
theorem g4f : ([1, 2, 3, 4] : List Nat).all (fun h => chkG 4 h false) = true := by decide +kernel
theorem glaw {w h : Nat} (hs : Sml w h) (e : Bool) : GLaw w h e := by
  obtain ⟨w1, w4, h1, h4⟩ := hs
  have hm : h ∈ ([1, 2, 3, 4] : List Nat) := by
    have : h = 1 ∨ h = 2 ∨ h = 3 ∨ h = 4 := by omega
    rcases this with z | z | z | z <;> simp [z]
  have hw : w = 1 ∨ w = 2 ∨ w = 3 ∨ w = 4 := by omega
  refine of_chkG ?_
  rcases hw with z | z | z | z <;> subst z <;> cases e
  · exact List.all_eq_true.mp g1f h hm
  · exact List.all_eq_true.mp g1t h hm
  · exact List.all_eq_true.mp g2f h hm
  · exact List.all_eq_true.mp g2t h hm
  · exact List.all_eq_true.mp g3f h hm
  · exact List.all_eq_true.mp g3t h hm
  · exact List.all_eq_true.mp g4f h hm
  · exact List.all_eq_true.mp g4t h hm
def chkC (n : Nat) : Bool :=
  decide (sortZ (grayF (n - 1)) = rgI (2 ^ n)) && (rgI (2 ^ n)).all (fun x => decide (nearC n x = linkC (2 ^ n) x)) &&
  decide (maxZ ((rgI (2 ^ n)).flatMap fun a => (rgI (2 ^ n)).map (farC n a)) = (n : Int)) &&
  (List.range (2 ^ n)).all (fun k => match (grayF (n - 1))[(k + 1) % 2 ^ n]?, (grayF (n - 1))[k]? with
    | some a, some b => decide (b ∈ rgI (2 ^ n)) && decide (a ∈ linkC (2 ^ n) b)
    | _, _ => false) &&
  (rgI (2 ^ n)).all (fun a => decide (bfs (nearK (linksC (2 ^ n))) 40 [(a, 0)] [a] = some (resC (2 ^ n) a)) && (rgI (2 ^ n)).all fun b => decide (getI (resC (2 ^ n) a) b = some (farC n a b)))
theorem of_chkC {n : Nat} (c : chkC n = true) : CLaw n := by
  unfold chkC at c
  simp only [Bool.and_eq_true, List.all_eq_true, decide_eq_true_eq] at c
  obtain ⟨⟨⟨⟨c1, c2⟩, c3⟩, c4⟩, c5⟩ := c
  refine ⟨c1, c2, c3, fun k hk => ?_, fun a ha => (c5 a ha).1, fun a ha => (c5 a ha).2⟩
  have q := c4 k (List.mem_range.mpr hk)
  cases h1 : (grayF (n - 1))[(k + 1) % 2 ^ n]? with
  | none => rw [h1] at q; cases q
  | some a =>
    cases h2 : (grayF (n - 1))[k]? with
    | none => rw [h1, h2] at q; cases q
    | some b =>
      rw [h1, h2] at q
      simp only [Bool.and_eq_true, decide_eq_true_eq] at q
      exact ⟨a, b, rfl, rfl, q.1, q.2⟩
theorem c1 : chkC 1 = true := by decide +kernel
theorem c2 : chkC 2 = true := by decide +kernel
theorem c3 : chkC 3 = true := by decide +kernel
theorem claw {n : Nat} (h1 : 1 ≤ n) (h3 : n ≤ 3) : CLaw n := by
  have : n = 1 ∨ n = 2 ∨ n = 3 := by omega
  rcases this with z | z | z
  · subst z; exact of_chkC c1
  · subst z; exact of_chkC c2
  · subst z; exact of_chkC c3
end K18

set_option Elab.async false
set_option linter.all false
set_option maxRecDepth 100000
set_option maxHeartbeats 4000000
/-! The law's walk. -/
namespace K18
open PySem L2
/-- what told and the lambdas ask -/
structure ToT (K : PySem.W.Frag) (mg : Str → Option Value) (CE : Addr) where
  (fT cGate cNet cRate cBlocked cPaper cText cStore cNoSuch : Addr)
  (oc kV dc pm cdv ct : Value)
  (od an : Option Addr)
  (osl : Array (Option Value))
  gT : mg "_law_told" = some (.ref fT)
  kT : PySem.W.keepIn K (.ref fT) = true
  lk : K.lookup fT = some ⟨oc, od, .func (PySem.W.fnOf "_law_told" "_law_told" (defArgs sTold) (defBody sTold) (defScope sTold) .none kV dc pm an cdv ct), osl⟩
  hc : PySem.W.codeIn K cdv "_law_told" = true
  bT : Binds K (PySem.W.fnOf "_law_told" "_law_told" (defArgs sTold) (defBody sTold) (defScope sTold) .none kV dc pm an cdv ct) ["_law_what"] []
  gGate : mg "BadGate" = some (.ref cGate)
  gNet : mg "BadNet" = some (.ref cNet)
  gRate : mg "BadRate" = some (.ref cRate)
  gSize : mg "BadSize" = some (.ref CE)
  gBlocked : mg "Blocked" = some (.ref cBlocked)
  gPaper : mg "BadPaper" = some (.ref cPaper)
  gText : mg "BadText" = some (.ref cText)
  gStore : mg "BadStore" = some (.ref cStore)
  gNoSuch : mg "NoSuch" = some (.ref cNoSuch)
  x1 : PySem.W.exmOne K (.ref CE) (.ref cGate) = some false
  x2 : PySem.W.exmOne K (.ref CE) (.ref cNet) = some false
  x3 : PySem.W.exmOne K (.ref CE) (.ref cRate) = some false
  x4 : PySem.W.exmOne K (.ref CE) (.ref CE) = some true
theorem scTo : FnScope ["_law_what"] ["_law_what"] (defScope sTold) := ⟨rfl, rfl, rfl, by decide +kernel, rfl, by decide +kernel, by decide +kernel⟩
section
variable {Pf Pl : Addr} {P : Program} {w : World} {K : PySem.W.Frag} {mg : Str → Option Value} {base : Heap} {f c : Addr} {A : Around} {outer : List Env} {s : Shared} {H0 : Hp} {E : XK} {CE : Addr}
abbrev toldL (T : ToT K mg CE) : List (Addr × Str) := [(T.cGate, "gate"), (T.cNet, "net"), (T.cRate, "rate"), (CE, "size"), (T.cBlocked, "blocked"), (T.cPaper, "paper"), (T.cText, "text"), (T.cStore, "store"), (T.cNoSuch, "no such")]
theorem gives (T : ToT K mg CE) (q : Str) : LamX.GivesTo (LX P w K mg base f c A outer s H0 E) ["_law_what"] "_law_told" (defScope sTold) T.fT T.cdv (defBody sTold) "_law_what" q (TMany K (toldL T)) :=
  told_many (L := toldL T) (fun s1 H1 => HdsOk.cons ⟨by rfl, by decide, .inl T.gGate⟩ (fun _ _ _ _ _ _ _ => pss_one (ps_ret pe_str)) (HdsOk.cons ⟨by rfl, by decide, .inl T.gNet⟩ (fun _ _ _ _ _ _ _ => pss_one (ps_ret pe_str))
    (HdsOk.cons ⟨by rfl, by decide, .inl T.gRate⟩ (fun _ _ _ _ _ _ _ => pss_one (ps_ret pe_str)) (HdsOk.cons ⟨by rfl, by decide, .inl T.gSize⟩ (fun _ _ _ _ _ _ _ => pss_one (ps_ret pe_str))
    (HdsOk.cons ⟨by rfl, by decide, .inl T.gBlocked⟩ (fun _ _ _ _ _ _ _ => pss_one (ps_ret pe_str)) (HdsOk.cons ⟨by rfl, by decide, .inl T.gPaper⟩ (fun _ _ _ _ _ _ _ => pss_one (ps_ret pe_str))
    (HdsOk.cons ⟨by rfl, by decide, .inl T.gText⟩ (fun _ _ _ _ _ _ _ => pss_one (ps_ret pe_str)) (HdsOk.cons ⟨by rfl, by decide, .inl T.gStore⟩ (fun _ _ _ _ _ _ _ => pss_one (ps_ret pe_str))
    (HdsOk.cons ⟨by rfl, by decide, .inl T.gNoSuch⟩ (fun _ _ _ _ _ _ _ => pss_one (ps_ret pe_str)) HdsOk.nil))))))))) (fun _ => rfl)
theorem told_size (T : ToT K mg CE) {q : Str → Prop} (h : q "size") : told K (.ref CE) (toldL T) q := ⟨false, T.x1, fun z => (nomatch z), fun _ => ⟨false, T.x2, fun z => (nomatch z), fun _ => ⟨false, T.x3, fun z => (nomatch z), fun _ => ⟨true, T.x4, fun _ => h, fun z => (nomatch z)⟩⟩⟩⟩
end
end K18

set_option Elab.async false
set_option linter.all false
set_option maxRecDepth 100000
set_option maxHeartbeats 4000000
/-! The law's walk. -/
namespace K18
open PySem L2
section
variable {Pf Pl : Addr} {P : Program} {w : World} {K : PySem.W.Frag} {mg : Str → Option Value} {base : Heap} {f c : Addr} {A : Around} {outer : List Env} {s : Shared} {H0 : Hp} {E : XK}
abbrev lamQ : Str := "law" ++ "<lambda>"
abbrev tLamG (T : LT P w K mg base Pf) : XK → TE := fun E => tMake T.CG (spGI T.CG T.CE) [] E (tCons (tI 0) (tCons (tI 1) (tCons (tC (.bl false)) tNil)))
abbrev tLamC (T : LT P w K mg base Pf) : XK → TE := fun E => tMake T.CC (spCI T.CC T.CE) [] E (tCons (tI 0) tNil)
abbrev tTold (T : LT P w K mg base Pf) (U : ToT K mg T.CE) (Pl : Addr) (q : Str) (t : XK → TE) : TE := LamX.tLam [(Pl, q)] (TMany K (toldL U)) t
abbrev LQ (P : Program) (w : World) (K : PySem.W.Frag) (mg : Str → Option Value) (base : Heap) (f c : Addr) (A : Around) (outer : List Env) (s : Shared) (H : Hp) (E : XK) : Str := (LX P w K mg base f c A outer s H E).env.qual ++ "<lambda>"
theorem peG (T : LT P w K mg base Pf) (U : ToT K mg T.CE) (TB : LamX.TabB base mg c Pl) (hr : Room 5 (LX P w K mg base f c A outer s H0 E).A) :
    PS (LX P w K mg base f c A outer s H0 E) ((defBody sLaw).getD 1 (.Pass ⟨0, 0, 0, 0⟩)) (tIfS (tNot (tEq (tTold T U Pl (LQ P w K mg base f c A outer s H0 E) (tLamG T)) (tC (.str "size")))) tFalse tNext) :=
  ps_if (pt_not (pt_cmpR op_eq
    (LamX.pe_lamcall (k := 2) (T := [(Pl, LQ P w K mg base f c A outer s H0 E)]) (TT := TMany K (toldL U)) (t := tLamG T) (Ng := ["_law_what"]) (a := "_law_what") (by rfl) U.gT U.kT U.lk U.hc U.bT scTo rfl (.inl rfl) (gives U _) TB rfl (List.mem_singleton.mpr rfl) (fun p hp _ => by rw [List.mem_singleton.mp hp]) (hr.mono (by decide))
      (LamX.lamS_by (by kernel_rfl)) rfl (fun _ _ _ _ _ => rfl)
      (fun A' outer' s' H' E' f' c' hr' => pe_make T.MG T.FGI hr' (by rfl) T.gG T.bGI .nil (passes_call (takes_of rfl rfl rfl rfl) fun _ _ _ _ h => h) (pa_cons pe_int (pa_cons pe_int (pa_cons pe_bl pa_nil)))))
    pe_str (nomark _))) (pss_one (ps_ret pe_bl)) pss_nil
theorem peC (T : LT P w K mg base Pf) (U : ToT K mg T.CE) (TB : LamX.TabB base mg c Pl) (hr : Room 5 (LX P w K mg base f c A outer s H0 E).A) :
    PS (LX P w K mg base f c A outer s H0 E) ((defBody sLaw).getD 2 (.Pass ⟨0, 0, 0, 0⟩)) (tRet (tOp rEq (tTold T U Pl (LQ P w K mg base f c A outer s H0 E) (tLamC T)) (tC (.str "size")))) :=
  ps_ret (pe_cmpR op_eq
    (LamX.pe_lamcall (k := 2) (T := [(Pl, LQ P w K mg base f c A outer s H0 E)]) (TT := TMany K (toldL U)) (t := tLamC T) (Ng := ["_law_what"]) (a := "_law_what") (by rfl) U.gT U.kT U.lk U.hc U.bT scTo rfl (.inl rfl) (gives U _) TB rfl (List.mem_singleton.mpr rfl) (fun p hp _ => by rw [List.mem_singleton.mp hp]) (hr.mono (by decide))
      (LamX.lamS_by (by kernel_rfl)) rfl (fun _ _ _ _ _ => rfl)
      (fun A' outer' s' H' E' f' c' hr' => pe_make T.MC T.FCI hr' (by rfl) T.gC T.bCI .nil (passes_call (takes_of rfl rfl rfl rfl) fun _ _ _ _ h => h) (pa_cons pe_int pa_nil)))
    pe_str (nomark _))
/-- the for's body, read -/
abbrev tBody (T : LT P w K mg base Pf) : TS :=
  tSeq (tAsg (tTup (tCons (tAdd (tI 1) (tRoll (tI 4))) (tCons (tAdd (tI 1) (tRoll (tI 4))) (tCons (tOp rEq (tRoll (tI 2)) (tI 1)) tNil)))) (gTup K 3 (gCons (gName 2) (gCons (gName 3) (gCons (gName 4) gNil)))))
  (tSeq (tAsg (tMake T.CG (spGI T.CG T.CE) [] E00 (tCons (tVar 2) (tCons (tVar 3) (tCons (tVar 4) tNil)))) (gName 5))
  (tSeq (tAsg (tL2 (Pf := Pf)) (gName 8))
  (tSeq (tAsg tDNewT (gName 9))
  (tSeq (tFor (iList K (tVar 8)) (gTup K 2 (gCons (gName 7) (gCons (gName 6) gNil))) (tSeq (tAsg tAr1 (gName 10)) (tSeq (tAsg (tAr2 K) (gName 10)) (sDPut (tVar 9) (tPair (tVar 7) (tVar 6)) (tNr K)))))
  (tSeq (tIfS (tOr (tNeD K (tMNodes K T.CG (preGN T.CG) Pf 5) (tVar 8)) (tNeD K (tF5 Pf K T.CG) tNil')) tFalse tNext)
  (tSeq (tIfS (tNeD K (tCB (rLstOf K) (tCons (tMeth T.CG "links" (Pr Pf (preGL T.CG)) [] E00 (tVar 5) tNil) tNil)) (tL6 Pf K)) tFalse tNext)
  (tSeq (tAsg (tOp (rIxL K) (tVar 8) (tRoll (tCB (rLen K) (tCons (tVar 8) tNil)))) (gName 12))
  (tSeq (tAsg (tCall (Pr Pf preFT) [] E00 (tCons (tVar 9) (tCons (tVar 12) tNil))) (gName 13))
  (tSeq (tIfS (tNeD K (tLc (iList K (tVar 8)) (gName 22) (tt9 Pf T.CG) (tVar 22) [22]) tNil') tFalse tNext)
  (tSeq (tIfS (tTest (tOp rNe (tCall (Pr Pf (preW T.CG (preGN T.CG) (preGF T.CG))) [] E00 (tCons (tVar 5) tNil)) (tCB (rMax K) (tCons (tLc (iList K (tVar 8)) (gName 22) tYes (te10 Pf K) [22]) tNil)))) tFalse tNext)
  (tSeq (tAsg (tLc (iList K (tVar 8)) (gName 22) (tEq (tRoll (tI 2)) (tI 0)) (tVar 22) [22]) (gName 14))
  (tSeq (tIfS (tNe (tCall (Pr Pf (preK T.CG)) [] E00 (tCons (tVar 5) (tCons (tVar 14) tNil))) (tCB (rLen K) (tCons (tCall (Pr Pf preFl) [] E00 (tCons (tLc (iList K (tVar 14)) (gName 22) tYes (te12 K) [22]) tNil)) tNil))) tFalse tNext)
  (tSeq (tIfS (tOr (tNeD K (tStep Pf T.CG "west") (tIf (tB (tVar 4)) (tPair (tSub (tVar 2) (tI 1)) (tI 0)) (tC .non)))
      (tNeD K (tStep Pf T.CG "south") (tIf (tOr (tB (tVar 4)) (tTest (tOp (rI0 fun i j => .bl (decide (i > j))) (tVar 3) (tI 1)))) (tPair (tI 0) (tMod (tI 1) (tVar 3))) (tC .non)))) tFalse tNext)
  (tSeq (tAsg (tAdd (tI 1) (tRoll (tI 3))) (gName 15))
  (tSeq (tAsg (tPair (tMake T.CC (spCI T.CC T.CE) [] E00 (tCons (tVar 15) tNil)) (tCall (Pr Pf preGy) [] E00 (tCons (tVar 15) tNil))) (gTup K 2 (gCons (gName 16) (gCons (gName 17) gNil))))
  (tSeq (tAsg (tOp (rIxL K) (tLst (tCons (tI 2) (tCons (tI 4) (tCons (tI 8) tNil)))) (tSub (tVar 15) (tI 1))) (gName 18))
  (tSeq (tIfS (tOr (tNeD K (tMNodes K T.CC (preCN T.CC) Pf 16) tRgM) (tNeD K (tCB (rSortTI K) (tCons (tVar 17) tNil)) tRgM)) tFalse tNext)
  (tSeq (tAsg (tCB (rDictPK K) (tCons (tLc iRgM (gName 22) tYes (tPair (tVar 22) (te18b K)) [22]) tNil)) (gName 19))
  (tSeq (tIfS (tOr (tNeD K (tLc iRgM (gName 22) (tt19 Pf K T.CC) (tVar 22) [22]) tNil') (tNe (tCall (Pr Pf (preW T.CC (preCN T.CC) (preCF T.CC))) [] E00 (tCons (tVar 16) tNil)) (tVar 15))) tFalse tNext)
  (tSeq (tIfS (tAnd (tNeD K (tLc iRgM (gName 25) (tt20 K) (tVar 25) [25]) tNil') (tTest (tOp (rI0 fun i j => .bl (decide (i > j))) (tVar 15) (tI 1)))) tFalse tNext)
  (tSeq (tAsg (tRoll (tVar 18)) (gName 11))
  (tIfS (tNeD K (tLc iRgM (gName 23) (tt22 Pf T.CC) (tVar 23) [23]) tNil') tFalse tNext))))))))))))))))))))))
theorem pssBody (T : LT P w K mg base Pf) (hr : Room 5 (LX P w K mg base f c A outer s H0 E).A) (hu65 : (LX P w K mg base f c A outer s H0 E).A.units + 65 < cLine) :
    PSs (LX P w K mg base f c A outer s H0 E) [lawB 0, lawB 1, lawB 2, lawB 3, lawB 4, lawB 5, lawB 6, lawB 7, lawB 8, lawB 9, lawB 10, lawB 11, lawB 12, lawB 13, lawB 14, lawB 15, lawB 16, lawB 17, lawB 18, lawB 19, lawB 20, lawB 21, lawB 22] (tBody T) :=
  pss_cons (ps0 T hr) (pss_cons (ps1 T hr) (pss_cons (ps2 T hr) (pss_cons ps3 (pss_cons (ps4 T hr hu65) (pss_cons (ps5 T hr) (pss_cons (ps6 T hr) (pss_cons (ps7 T hr) (pss_cons (ps8 T hr) (pss_cons (ps9 T hr) (pss_cons (ps10 T hr)
  (pss_cons (ps11 T hr) (pss_cons (ps12 T hr hu65) (pss_cons (ps13 T hr) (pss_cons (ps14 T hr) (pss_cons (ps15 T hr) (pss_cons ps16 (pss_cons (ps17 T hr) (pss_cons (ps18 T hr) (pss_cons (ps19 T hr) (pss_cons (ps20 T hr hu65) (pss_cons (ps21 T hr) (pss_one (ps22 T hr)))))))))))))))))))))))
theorem rd_ifE {pd : Addr} {B H : Hp} {σ : L2.St} {D : Ends} {tt : TT} (x : DC Pf pd B H) (h : EvT Pf tt σ B false) (k : ∀ H', DC Pf pd B H' → D.nx σ H') : tIfS tt tFalse tNext D σ H := s_ifT h x.sb (fun hb => by cases hb) (fun _ H1 a1 => k H1 (x.ax a1))
theorem rdBody (T : LT P w K mg base Pf) {pd : Addr} {B H : Hp} {D : Ends} {s0 w0 h0 e0 g0 r0 c0 n0 nr0 ar0 o0 hr0 fh0 sd0 wy0 cb0 od0 mn0 lk0 a0 b0 nd0 ot0 pt0 k0 : Option V} (x : DC Pf pd B H) (k : ∀ σ' B' H', Ex B B' → DC Pf pd B' H' → D.nx σ' H') :
    tBody T D (Ls s0 (some (.ref pd)) w0 h0 e0 g0 r0 c0 n0 nr0 ar0 o0 hr0 fh0 sd0 wy0 cb0 od0 mn0 lk0 a0 b0 nd0 ot0 pt0 k0) H := by
  refine rd0 x fun w h e H1 hs x1 => ?_
  have L := glaw hs e
  refine rd1 x1 hs fun gp B2 H2 e2 x2 hg => ?_
  refine rd2 x2 hs fun nv B3 H3 e3 x3 hn => ?_
  refine rd3 x3 hs hn fun nrv r c ar B4 H4 e4 x4 hnr => ?_
  have hg4 := hg.mono (e3.trans e4)
  have hn4 := R.mono e4 _ hn
  refine rd_if x4 (et5 hs L hg4 hn4 hnr) fun H5 x5 => ?_
  refine rd_if x5 (et6 hs L hg4 hn4 hnr) fun H6 x6 => ?_
  refine rd7 x6 hs hn4 fun hv n H7 x7 hnm hh => ?_
  refine rd8 x7 L hnr hnm hh fun fv B8 H8 e8 x8 hf => ?_
  have hg8 := hg4.mono e8
  have hn8 := R.mono e8 _ hn4
  have hnr8 := mono_T _ _ _ e8 hnr
  refine rd_if x8 (et9 hs L hg8 hn8 hnm (R.mono e8 _ hh) hf) fun H9 x9 => ?_
  refine rd_if x9 (et10 hs L hg8 hn8 hnr8) fun H10 x10 => ?_
  refine rd11 x10 hs hn8 fun sv side B11 H11 e11 x11 hsub hsd => ?_
  have hg11 := hg8.mono e11
  refine rd_if x11 (et12 hs L hsub hg11 (mono_T _ _ _ e11 hnr8) hsd) fun H12 x12 => ?_
  refine rd_if x12 (et13 hs L hg11) fun H13 x13 => ?_
  refine rd14 x13 fun N H14 n1 n3 x14 => ?_
  have M := claw n1 n3
  refine rd15 x14 n1 n3 fun cp ov B15 H15 e15 x15 hc ho => ?_
  refine rd16 x15 n1 n3 fun H16 x16 => ?_
  refine rd_if x16 (et17 n3 M hc ho) fun H17 x17 => ?_
  refine rd18 x17 n3 fun lv B18 H18 e18 x18 hl => ?_
  have hc18 := hc.mono e18
  refine rd_if x18 (et19 n1 n3 M hc18 hl) fun H19 x19 => ?_
  refine rd_if x19 (et20 n1 n3 M (R.mono e18 _ ho) hl) fun H20 x20 => ?_
  refine rd21 x20 n3 fun i H21 hi x21 => ?_
  refine rd_ifE x21 (et22 n3 M hi hc18 hl) fun H22 x22 => ?_
  exact k _ B18 H22 ((((((e2.trans e3).trans e4).trans e8).trans e11).trans e15).trans e18) x22
end
end K18

set_option Elab.async false
set_option linter.all false
set_option maxRecDepth 100000
set_option maxHeartbeats 4000000
/-! The law. -/
namespace K18
open PySem L2
section
variable {Pf Pl : Addr} {P : Program} {w : World} {K : PySem.W.Frag} {mg : Str → Option Value} {base : Heap}
def spLaw (K : PySem.W.Frag) (Pf Pl : Addr) : Sp := fun vs H Q _ => ∃ (a : Addr) (ns : List Int), vs = [.ref a] ∧ Pl ≠ Pf ∧ H Pl = some (.tbl #[]) ∧ H Pf = some (.tbl #[]) ∧ SqL K H a (ns.map V.int) ∧ ns.length ≤ 63 ∧ ∀ H', Q (.bl true) H'
/-- a lambda told: it ends with size -/
theorem rdG (T : LT P w K mg base Pf) (U : ToT K mg T.CE) {q : Str} {σ : L2.St} {H : Hp} {Q : VK} (hT : LamX.Tabs [(Pl, q)] H) (k : ∀ H', LamX.Tabs [(Pl, q)] H' → Q (.str "size") H') : tTold T U Pl q (tLamG T) σ H Q :=
  ⟨hT, fun H1 e1 h1 x dx nx ndx nex => ⟨x, dx, 0, 1, false, rfl, upd_same, fun _ => told_size U (k _ (LamX.Tabs.ext h1 fun b o e => by
    rw [upd_ne (ne_of_none e nx), upd_ne (ne_of_none e ndx)]
    exact e)), fun z => absurd (.inl (by decide)) z⟩⟩
theorem rdC (T : LT P w K mg base Pf) (U : ToT K mg T.CE) {q : Str} {σ : L2.St} {H : Hp} {Q : VK} (hT : LamX.Tabs [(Pl, q)] H) (k : ∀ H', LamX.Tabs [(Pl, q)] H' → Q (.str "size") H') : tTold T U Pl q (tLamC T) σ H Q :=
  ⟨hT, fun H1 e1 h1 x dx nx ndx nex => ⟨x, dx, 0, rfl, upd_same, fun _ => told_size U (k _ (LamX.Tabs.ext h1 fun b o e => by
    rw [upd_ne (ne_of_none e nx), upd_ne (ne_of_none e ndx)]
    exact e)), fun z => absurd (by decide) z⟩⟩
theorem ok_law (T : LT P w K mg base Pf) (U : ToT K mg T.CE) {f c : Addr} {fd : FuncData} (F : FunC K "law" "law" sLaw f fd c) (TB : LamX.TabB base mg c Pl) : FnOk P w K mg base CX0 6 f fd ["_law_script"] (spLaw K Pf Pl) := by
  refine F.ok scLaw (fun vs H Q E h => ?_) (fun A outer s H vs Q E hr h => ?_)
  · obtain ⟨a, ns, rfl, _⟩ := h
    rfl
  · obtain ⟨a, ns, rfl, nPl, hPl, hPf, hS, hl, k⟩ := h
    have hr5 : Room 5 (LX P w K mg base f c A outer s H E).A := hr
    have hu65 : (LX P w K mg base f c A outer s H E).A.units + 65 < cLine := by have h1 := hr5.un; omega
    refine ⟨_, pss_cons (ps_for PassesOwn.never rfl (pi_list (pe_call (E := E00) T.FRounds (hr5.mono (by decide)) (by rfl) T.gRounds T.kRounds T.bRounds .nil pass0 (pa_cons (pv 0) (pa_cons pe_int pa_nil)))) (pg_name (i := 1) scLaw.nd rfl (.inr rfl)) (pssBody T hr5 hu65))
      (pss_cons (peG T U TB hr5) (pss_one (peC T U TB hr5))), ?_⟩
    -- the base: the law's own table
    let B0 : Hp := fun b => if b = Pl then some (.tbl #[]) else none
    have b0 : ∀ b o, B0 b = some o → b = Pl ∧ o = .tbl #[] := fun b o e => by
      by_cases z : b = Pl
      · have e : (if b = Pl then some (HO.tbl #[]) else none) = some o := e
        rw [if_pos z] at e
        exact ⟨z, (Option.some.inj e).symm⟩
      · have e : (if b = Pl then some (HO.tbl #[]) else none) = some o := e
        rw [if_neg z] at e
        cases e
    have sb0 : Sb Pf B0 H := ⟨fun b o e => by
        obtain ⟨rfl, rfl⟩ := b0 b o e
        exact hPl, by
        show (if Pf = Pl then some (HO.tbl #[]) else none) = none
        rw [if_neg (Ne.symm nPl)], ⟨#[], hPf, True.intro⟩⟩
    have b0l : B0 Pl = some (.tbl #[]) := if_pos rfl
    refine ⟨_, rfl, a, ns, B0, rfl, hS, by omega, sb0, fun v B1 H1 x y z t1 r1 => ?_⟩
    obtain ⟨a1, xs, rfl, ha1, hx⟩ := R.lst_inv r1
    cases hx with
    | cons rd hx =>
      cases hx
      obtain ⟨pd, ds, rfl, hpd, hds⟩ := R.lst_inv rd
      obtain rfl := Rs.of_ints (ns := [x, y, z]) hds
      have nap : a1 ≠ pd := fun z => by
        rw [z, hpd] at ha1
        cases ha1
      have npf : pd ≠ Pf := fun z => by
        have := t1.sub.no
        rw [← z, hpd] at this
        cases this
      let Bm : Hp := fun b => if b = pd then none else B1 b
      have bm : ∀ b, b ≠ pd → Bm b = B1 b := fun b hb => if_neg hb
      have em : Ex Bm B1 := fun b o e => by
        by_cases z : b = pd
        · have e : (if b = pd then none else B1 b) = some o := e
          rw [if_pos z] at e
          cases e
        · rw [bm b z] at e
          exact e
      have xm : DC Pf pd Bm H1 := ⟨⟨em.trans t1.sub.ex, by rw [bm Pf (Ne.symm npf)]; exact t1.sub.no, t1.sub.tab⟩, if_pos rfl, ⟨x, y, z, t1.sub.at hpd⟩, npf⟩
      have am : Bm a1 = some (.lst [.ref pd]) := by rw [bm a1 nap]; exact ha1
      have npl : Pl ≠ pd := fun z => by
        have h1 := t1.bas _ _ b0l
        rw [z, hpd] at h1
        cases h1
      have lm : Bm Pl = some (.tbl #[]) := by rw [bm Pl npl]; exact t1.bas _ _ b0l
      refine ⟨a1, rfl, ⟨_, SqL.of (xm.sb.at am)⟩, for_list (K := K) (a := a1) (xs := [V.ref pd]) (fun i σ' H' => ∃ B', Ex Bm B' ∧ DC Pf pd B' H' ∧ (i = 0 → σ' = L2.start lawN [V.ref a])) ⟨Bm, Ex.refl _, xm, fun _ => rfl⟩ ?_ ?_ ?_⟩
      · rintro i σ' H' _ ⟨B', e', x', _⟩
        exact SqL.of (x'.sb.at (e' _ _ am))
      · rintro i u σ' H' hu ⟨B', e', x', h0⟩
        have hi : i = 0 := by
          have := (List.getElem?_eq_some_iff.mp hu).1
          simp at this
          exact this
        subst hi
        have hu := Option.some.inj hu
        subst hu
        have h0 := h0 rfl
        subst h0
        exact rdBody T (s0 := some (.ref a)) (w0 := none) (h0 := none) (e0 := none) (g0 := none) (r0 := none) (c0 := none) (n0 := none) (nr0 := none) (ar0 := none) (o0 := none) (hr0 := none) (fh0 := none) (sd0 := none) (wy0 := none) (cb0 := none) (od0 := none) (mn0 := none) (lk0 := none) (a0 := none) (b0 := none) (nd0 := none) (ot0 := none) (pt0 := none) (k0 := none) x' fun σ2 B2 H2 e2 x2 => ⟨B2, e'.trans e2, x2, fun z => by cases z⟩
      · rintro σ' H' ⟨B', e', x', _⟩
        have hl' : H' Pl = some (.tbl #[]) := x'.sb.at (e' _ _ lm)
        have hT : LamX.Tabs [(Pl, LQ P w K mg base f c A outer s H E)] H' := fun p hp => by
          rw [List.mem_singleton.mp hp]
          exact LamX.TabS.nil hl'
        refine rdG T U hT fun H2 h2 => ⟨rfl, _, rfl, ?_⟩
        have e1 : decide (V.str ("size" : Str) = V.str ("size" : Str)) = true := by simp
        rw [e1]
        refine iteF ?_
        refine rdC T U h2 fun H3 h3 => ⟨rfl, ?_⟩
        rw [e1]
        exact k H3
end
end K18

set_option Elab.async false
set_option linter.all false
set_option maxRecDepth 100000
set_option maxHeartbeats 0
/-! The head: what the top leaves, told by names. -/
namespace K18
open PySem PySem.Spec PyProof.Rows L2
def dG (x : Str) (st : Stmt) : He.DefD := ⟨(x, none), x, x, defArgs st, defBody st, defScope st, [], []⟩
def dM (C m q : Str) (st : Stmt) : He.DefD := ⟨(C, some m), m, q, defArgs st, defBody st, defScope st, [], []⟩
def fnL : List He.DefD := [dG "power_of_two" sPow, dG "figures" sFig, dG "from_figures" sFrom, dM "Grid" "__init__" "Grid.__init__" sGInit, dM "Grid" "nodes" "Grid.nodes" sGNodes, dM "Grid" "step" "Grid.step" sGStep, dM "Grid" "near" "Grid.near" sGNear,
  dM "Grid" "links" "Grid.links" sGLinks, dM "Grid" "far" "Grid.far" sGFar, dM "Cube" "__init__" "Cube.__init__" sCInit, dM "Cube" "nodes" "Cube.nodes" sCNodes, dM "Cube" "step" "Cube.step" sCStep, dM "Cube" "near" "Cube.near" sCNear, dM "Cube" "far" "Cube.far" sCFar,
  dG "gray" sGray, dG "widest" sWidest, dG "steps_between" sSteps, dG "cut_links" sCut, dG "_law_flat" sFlat, dG "_law_dice" sDice, dG "_law_roll" sRoll, dG "_law_rounds" sRounds, dG "_law_told" sTold, dG "_law_far" sFar, dG "law" sLaw]
def faL : List He.Fa := ([("Grid" : Str), "Cube", "power_of_two", "figures", "from_figures", "gray", "widest", "steps_between", "cut_links", "_law_flat", "_law_dice", "_law_roll", "_law_rounds", "_law_told", "_law_far", "law",
    "BadGate", "BadNet", "BadRate", "BadSize", "Blocked", "BadPaper", "BadText", "BadStore", "NoSuch"].map He.Fa.glo) ++
  ([("range" : Str), "tuple", "list", "sorted", "dict", "abs", "min", "max", "len", "sum", "zip", "int", "reversed"].map He.Fa.free) ++
  [.cls "Grid", .cls "Cube", .noat "Grid" "wide", .noat "Grid" "high", .noat "Grid" "round_ends", .noat "Cube" "ways", .meth "Grid" "nodes", .meth "Grid" "step", .meth "Grid" "near", .meth "Grid" "links", .meth "Grid" "far",
    .meth "Cube" "nodes", .meth "Cube" "step", .meth "Cube" "near", .meth "Cube" "far", .mkr "Grid", .mkr "Cube", .exc "BadSize", .exm "BadSize" "BadGate" false, .exm "BadSize" "BadNet" false, .exm "BadSize" "BadRate" false, .exm "BadSize" "BadSize" true]
def tfL : List He.Defn := [("law", none), ("Cube", some "far")]
def exL (K : PySem.W.Frag) : Bool := decide ((He.cT K ("law", none)).2 ≠ (He.cT K ("Cube", some "far")).2)
abbrev RR : PySem.W.OpenRow := PySem.W.OpenLaw.row PySem.Challenge.rw_crossloom_k18_grids_and_cubes
abbrev hkL : PySem.W.Hook := He.hookX 7 faL fnL [] tfL exL
def obL (s : PySem.W.SharedT) : He.AlX := He.obsX 7 faL fnL [] tfL exL (HandSHeadRun.getT s)
theorem obL_eq (s : PySem.W.SharedT) : obL s = hkL.obs s.abs := He.obsX_eq (HandSHeadRun.getT_eq s)
def looseL : List Str := ["FabricFault", "BadGate", "BadNet", "BadRate", "BadSize", "Blocked", "BadPaper", "BadText", "BadStore", "NoSuch", "power_of_two", "figures", "from_figures", "Grid", "Cube", "gray", "widest", "steps_between", "cut_links",
  "_law_flat", "_law_dice", "_law_roll", "_law_rounds", "_law_told", "_law_far"]
theorem runL (w : World) : HandSHeadRun.RunEq RR (PySem.W.view RR.prog [29]) hkL obL 6000 looseL w := by
  intro os
  kernel_rfl
end K18

set_option Elab.async false
set_option linter.all false
set_option maxRecDepth 100000
set_option maxHeartbeats 4000000
/-! The end. -/
namespace K18
open PySem PySem.Spec PyProof.Rows L2
section
variable {P : Program} {w : World} {K : PySem.W.Frag} {mg : Str → Option Value} {base h : Heap} {x q : Str} {st : Stmt} {f : Addr} {fd : FuncData} {p : He.Defn}
theorem dflNone {dV : Value} (h : DflV K dV []) : dV = .none := by
  rcases h with ⟨_, e⟩ | ⟨e, _⟩
  · exact e
  · exact absurd rfl e
theorem fun_of (F : FunD K x q (defArgs st) (defBody st) (defScope st) [] [] f fd) : L2.Fun K x q st f fd := by
  obtain ⟨oc, od, dV, kV, doc, pm, an, cdv, ct, osl, rfl, lk, hcd, hd, _⟩ := F.ex
  have e := dflNone hd
  subst e
  exact ⟨⟨oc, od, kV, doc, pm, an, cdv, ct, osl, rfl, lk, hcd⟩, F.kp⟩
theorem funC_of (F : FunD K x q (defArgs st) (defBody st) (defScope st) [] [] (He.fAd K p) fd) : FunC K x q st (He.fAd K p) fd (He.codeOf K p) := by
  obtain ⟨oc, od, dV, kV, doc, pm, an, cdv, ct, osl, rfl, lk, hcd, hd, _⟩ := F.ex
  have e := dflNone hd
  subst e
  obtain ⟨c, rfl⟩ := He.codeIn_ref hcd
  have ec := He.codeOf_eq lk (c := c) rfl
  rw [ec]
  exact ⟨oc, od, kV, doc, pm, an, ct, osl, rfl, lk, hcd⟩
variable (X : K.In h) (G : h.Ns mainGlobals mg) (c : He.SaysD faL fnL K)
include X G c
theorem biL : BI mg := ⟨He.free_ok X G (c.fact 25 (f := .free "range") rfl), He.free_ok X G (c.fact 26 (f := .free "tuple") rfl), He.free_ok X G (c.fact 27 (f := .free "list") rfl), He.free_ok X G (c.fact 28 (f := .free "sorted") rfl), He.free_ok X G (c.fact 29 (f := .free "dict") rfl),
  He.free_ok X G (c.fact 30 (f := .free "abs") rfl), He.free_ok X G (c.fact 31 (f := .free "min") rfl), He.free_ok X G (c.fact 32 (f := .free "max") rfl), He.free_ok X G (c.fact 33 (f := .free "len") rfl), He.free_ok X G (c.fact 34 (f := .free "sum") rfl), He.free_ok X G (c.fact 35 (f := .free "zip") rfl), He.free_ok X G (c.fact 36 (f := .free "int") rfl), He.free_ok X G (c.fact 37 (f := .free "reversed") rfl)⟩
theorem etL : ET K mg (He.ga K "BadSize") := by
  obtain ⟨e1, e2, e3, e4⟩ := He.exc_ok (c.fact 55 (f := .exc "BadSize") rfl)
  exact ⟨He.glo_ok X G (c.fact 19 (f := .glo "BadSize") rfl), e1, e2, e3, e4⟩
omit X G in
theorem gtL : GT K (He.ga K "Grid") := ⟨He.cls_ok (c.fact 38 (f := .cls "Grid") rfl), He.noat_ok (c.fact 40 (f := .noat "Grid" "wide") rfl), He.noat_ok (c.fact 41 (f := .noat "Grid" "high") rfl), He.noat_ok (c.fact 42 (f := .noat "Grid" "round_ends") rfl)⟩
omit X G in
theorem ctL : CT K (He.ga K "Cube") := ⟨He.cls_ok (c.fact 39 (f := .cls "Cube") rfl), He.noat_ok (c.fact 43 (f := .noat "Cube" "ways") rfl)⟩
theorem totL : Nonempty (ToT K mg (He.ga K "BadSize")) := by
  obtain ⟨fd, F⟩ := c.def_ 22 (d := dG "_law_told" sTold) rfl
  obtain ⟨oc, od, dV, kV, doc, pm, an, cdv, ct, osl, rfl, lk, hcd, hd, _⟩ := F.ex
  have e := dflNone hd
  subst e
  exact ⟨⟨He.ga K "_law_told", He.ga K "BadGate", He.ga K "BadNet", He.ga K "BadRate", He.ga K "Blocked", He.ga K "BadPaper", He.ga K "BadText", He.ga K "BadStore", He.ga K "NoSuch", oc, kV, doc, pm, cdv, ct, od, an, osl,
    He.glo_ok X G (c.fact 13 (f := .glo "_law_told") rfl), F.kp, lk, hcd, (fun_of (st := sTold) F).binds fun _ _ _ _ _ _ us hl => match us, hl with | [_], _ => rfl,
    He.glo_ok X G (c.fact 16 (f := .glo "BadGate") rfl), He.glo_ok X G (c.fact 17 (f := .glo "BadNet") rfl), He.glo_ok X G (c.fact 18 (f := .glo "BadRate") rfl), He.glo_ok X G (c.fact 19 (f := .glo "BadSize") rfl), He.glo_ok X G (c.fact 20 (f := .glo "Blocked") rfl), He.glo_ok X G (c.fact 21 (f := .glo "BadPaper") rfl), He.glo_ok X G (c.fact 22 (f := .glo "BadText") rfl), He.glo_ok X G (c.fact 23 (f := .glo "BadStore") rfl), He.glo_ok X G (c.fact 24 (f := .glo "NoSuch") rfl),
    He.exm_ok (c.fact 56 (f := .exm "BadSize" "BadGate" false) rfl), He.exm_ok (c.fact 57 (f := .exm "BadSize" "BadNet" false) rfl), He.exm_ok (c.fact 58 (f := .exm "BadSize" "BadRate" false) rfl), He.exm_ok (c.fact 59 (f := .exm "BadSize" "BadSize" true) rfl)⟩⟩
theorem ltL (Pf : Addr) (TB : GxR.TabB base mg (He.codeOf K ("Cube", some "far")) Pf) : ∃ T : LT P w K mg base Pf, T.CE = He.ga K "BadSize" := by
  have b := biL X G c
  have E := etL X G c
  have Gt := gtL c
  have Ct := ctL c
  obtain ⟨d0, F0⟩ := c.def_ 0 (d := dG "power_of_two" sPow) rfl
  obtain ⟨d1, F1⟩ := c.def_ 1 (d := dG "figures" sFig) rfl
  obtain ⟨d2, F2⟩ := c.def_ 2 (d := dG "from_figures" sFrom) rfl
  obtain ⟨d3, F3⟩ := c.def_ 3 (d := dM "Grid" "__init__" "Grid.__init__" sGInit) rfl
  obtain ⟨d4, F4⟩ := c.def_ 4 (d := dM "Grid" "nodes" "Grid.nodes" sGNodes) rfl
  obtain ⟨d5, F5⟩ := c.def_ 5 (d := dM "Grid" "step" "Grid.step" sGStep) rfl
  obtain ⟨d6, F6⟩ := c.def_ 6 (d := dM "Grid" "near" "Grid.near" sGNear) rfl
  obtain ⟨d7, F7⟩ := c.def_ 7 (d := dM "Grid" "links" "Grid.links" sGLinks) rfl
  obtain ⟨d8, F8⟩ := c.def_ 8 (d := dM "Grid" "far" "Grid.far" sGFar) rfl
  obtain ⟨d9, F9⟩ := c.def_ 9 (d := dM "Cube" "__init__" "Cube.__init__" sCInit) rfl
  obtain ⟨d10, F10⟩ := c.def_ 10 (d := dM "Cube" "nodes" "Cube.nodes" sCNodes) rfl
  obtain ⟨d11, F11⟩ := c.def_ 11 (d := dM "Cube" "step" "Cube.step" sCStep) rfl
  obtain ⟨d12, F12⟩ := c.def_ 12 (d := dM "Cube" "near" "Cube.near" sCNear) rfl
  obtain ⟨d13, F13⟩ := c.def_ 13 (d := dM "Cube" "far" "Cube.far" sCFar) rfl
  obtain ⟨d14, F14⟩ := c.def_ 14 (d := dG "gray" sGray) rfl
  obtain ⟨d15, F15⟩ := c.def_ 15 (d := dG "widest" sWidest) rfl
  obtain ⟨d16, F16⟩ := c.def_ 16 (d := dG "steps_between" sSteps) rfl
  obtain ⟨d17, F17⟩ := c.def_ 17 (d := dG "cut_links" sCut) rfl
  obtain ⟨d18, F18⟩ := c.def_ 18 (d := dG "_law_flat" sFlat) rfl
  obtain ⟨d19, F19⟩ := c.def_ 19 (d := dG "_law_dice" sDice) rfl
  obtain ⟨d20, F20⟩ := c.def_ 20 (d := dG "_law_roll" sRoll) rfl
  obtain ⟨d21, F21⟩ := c.def_ 21 (d := dG "_law_rounds" sRounds) rfl
  obtain ⟨d23, F23⟩ := c.def_ 23 (d := dG "_law_far" sFar) rfl
  have B0 := (fun_of (st := sPow) F0).binds (ps := ["count"]) fun _ _ _ _ _ _ us hl => match us, hl with | [_], _ => rfl
  have B1 := (fun_of (st := sFig) F1).binds (ps := ["number", "count"]) fun _ _ _ _ _ _ us hl => match us, hl with | [_, _], _ => rfl
  have B2 := (fun_of (st := sFrom) F2).binds (ps := ["row"]) fun _ _ _ _ _ _ us hl => match us, hl with | [_], _ => rfl
  have B3 := (fun_of (st := sGInit) F3).binds (ps := ["self", "wide", "high", "round_ends"]) fun _ _ _ _ _ _ us hl => match us, hl with | [_, _, _, _], _ => rfl
  have B4 := (fun_of (st := sGNodes) F4).binds (ps := ["self"]) fun _ _ _ _ _ _ us hl => match us, hl with | [_], _ => rfl
  have B5 := (fun_of (st := sGStep) F5).binds (ps := ["self", "node", "way"]) fun _ _ _ _ _ _ us hl => match us, hl with | [_, _, _], _ => rfl
  have B6 := (fun_of (st := sGNear) F6).binds (ps := ["self", "node"]) fun _ _ _ _ _ _ us hl => match us, hl with | [_, _], _ => rfl
  have B7 := (fun_of (st := sGLinks) F7).binds (ps := ["self"]) fun _ _ _ _ _ _ us hl => match us, hl with | [_], _ => rfl
  have B8 := (fun_of (st := sGFar) F8).binds (ps := ["self", "one", "other"]) fun _ _ _ _ _ _ us hl => match us, hl with | [_, _, _], _ => rfl
  have B9 := (fun_of (st := sCInit) F9).binds (ps := ["self", "ways"]) fun _ _ _ _ _ _ us hl => match us, hl with | [_, _], _ => rfl
  have B10 := (fun_of (st := sCNodes) F10).binds (ps := ["self"]) fun _ _ _ _ _ _ us hl => match us, hl with | [_], _ => rfl
  have B11 := (fun_of (st := sCStep) F11).binds (ps := ["self", "node", "way"]) fun _ _ _ _ _ _ us hl => match us, hl with | [_, _, _], _ => rfl
  have B12 := (fun_of (st := sCNear) F12).binds (ps := ["self", "node"]) fun _ _ _ _ _ _ us hl => match us, hl with | [_, _], _ => rfl
  have B13 := (fun_of (st := sCFar) F13).binds (ps := ["self", "one", "other"]) fun _ _ _ _ _ _ us hl => match us, hl with | [_, _, _], _ => rfl
  have B14 := (fun_of (st := sGray) F14).binds (ps := ["ways"]) fun _ _ _ _ _ _ us hl => match us, hl with | [_], _ => rfl
  have B15 := (fun_of (st := sWidest) F15).binds (ps := ["shape"]) fun _ _ _ _ _ _ us hl => match us, hl with | [_], _ => rfl
  have B16 := (fun_of (st := sSteps) F16).binds (ps := ["shape", "one", "other"]) fun _ _ _ _ _ _ us hl => match us, hl with | [_, _, _], _ => rfl
  have B17 := (fun_of (st := sCut) F17).binds (ps := ["shape", "side"]) fun _ _ _ _ _ _ us hl => match us, hl with | [_, _], _ => rfl
  have B18 := (fun_of (st := sFlat) F18).binds (ps := ["_law_rows"]) fun _ _ _ _ _ _ us hl => match us, hl with | [_], _ => rfl
  have B19 := (fun_of (st := sDice) F19).binds (ps := ["_law_cell"]) fun _ _ _ _ _ _ us hl => match us, hl with | [_], _ => rfl
  have B20 := (fun_of (st := sRoll) F20).binds (ps := ["_law_dice_here", "_law_many"]) fun _ _ _ _ _ _ us hl => match us, hl with | [_, _], _ => rfl
  have B21 := (fun_of (st := sRounds) F21).binds (ps := ["_law_script", "_law_most"]) fun _ _ _ _ _ _ us hl => match us, hl with | [_, _], _ => rfl
  have B23 := (fun_of (st := sFar) F23).binds (ps := ["_law_near", "_law_start"]) fun _ _ _ _ _ _ us hl => match us, hl with | [_, _], _ => rfl
  have gP := He.glo_ok X G (c.fact 2 (f := .glo "power_of_two") rfl)
  have gF := He.glo_ok X G (c.fact 3 (f := .glo "figures") rfl)
  have gM := He.glo_ok X G (c.fact 4 (f := .glo "from_figures") rfl)
  have O0 : FnOk P w K mg base CX0 1 _ d0 ["count"] (Pr Pf prePow) := ok_pow (fun_of (st := sPow) F0) b.range
  have O1 : FnOk P w K mg base CX0 1 _ d1 ["number", "count"] (Pr Pf preFig) := ok_fig (fun_of (st := sFig) F1) b.range b.tuple b.rev
  have O2 : FnOk P w K mg base CX0 1 _ d2 ["row"] (Pr Pf preFrom) := ok_from (fun_of (st := sFrom) F2)
  have O3 : FnOk P w K mg base (L2.CX P w) 1 _ d3 ["self", "wide", "high", "round_ends"] (spGI (He.ga K "Grid") (He.ga K "BadSize")) := ok_ginit (fun_of (st := sGInit) F3) Gt E
  have O4 : FnOk P w K mg base CX0 1 _ d4 ["self"] (Pr Pf (preGN (He.ga K "Grid"))) := ok_gnodes (fun_of (st := sGNodes) F4) Gt b
  have O5 : FnOk P w K mg base CX0 1 _ d5 ["self", "node", "way"] (Pr Pf (preGS (He.ga K "Grid"))) := ok_gstep (fun_of (st := sGStep) F5) Gt b
  have m4 := He.meth_ok (c.fact 44 (f := .meth "Grid" "nodes") rfl)
  have m5 := He.meth_ok (c.fact 45 (f := .meth "Grid" "step") rfl)
  have m6 := He.meth_ok (c.fact 46 (f := .meth "Grid" "near") rfl)
  have m7 := He.meth_ok (c.fact 47 (f := .meth "Grid" "links") rfl)
  have m8 := He.meth_ok (c.fact 48 (f := .meth "Grid" "far") rfl)
  have m10 := He.meth_ok (c.fact 49 (f := .meth "Cube" "nodes") rfl)
  have m11 := He.meth_ok (c.fact 50 (f := .meth "Cube" "step") rfl)
  have m12 := He.meth_ok (c.fact 51 (f := .meth "Cube" "near") rfl)
  have m13 := He.meth_ok (c.fact 52 (f := .meth "Cube" "far") rfl)
  have O6 : FnOk P w K mg base CX0 2 _ d6 ["self", "node"] (Pr Pf (preGR (He.ga K "Grid"))) := ok_gnear (fun_of (st := sGNear) F6) Gt b m5 O5 B5
  have O7 : FnOk P w K mg base CX0 3 _ d7 ["self"] (Pr Pf (preGL (He.ga K "Grid"))) := ok_glinks (fun_of (st := sGLinks) F7) Gt b m4 O4 B4 m6 O6 B6
  have O8 : FnOk P w K mg base CX0 1 _ d8 ["self", "one", "other"] (Pr Pf (preGF (He.ga K "Grid"))) := ok_gfar (fun_of (st := sGFar) F8) Gt b
  have O9 : FnOk P w K mg base (L2.CX P w) 1 _ d9 ["self", "ways"] (spCI (He.ga K "Cube") (He.ga K "BadSize")) := ok_cinit (fun_of (st := sCInit) F9) Ct E
  have O10 : FnOk P w K mg base CX0 2 _ d10 ["self"] (Pr Pf (preCN (He.ga K "Cube"))) := ok_cnodes (fun_of (st := sCNodes) F10) Ct b gP F0.kp O0 B0
  have O11 : FnOk P w K mg base CX0 2 _ d11 ["self", "node", "way"] (Pr Pf (preCS (He.ga K "Cube"))) := ok_cstep (fun_of (st := sCStep) F11) Ct b gF F1.kp O1 B1 gM F2.kp O2 B2
  have O12 : FnOk P w K mg base CX0 3 _ d12 ["self", "node"] (Pr Pf (preCR (He.ga K "Cube"))) := ok_cnear (fun_of (st := sCNear) F12) Ct b m11 O11 B11
  have O13 : FnOk P w K mg base CX0 2 _ d13 ["self", "one", "other"] (Pr Pf (preCF (He.ga K "Cube"))) := ok_cfar (funC_of (st := sCFar) F13) Ct b TB gF F1.kp O1 B1
  have O14 : FnOk P w K mg base CX0 2 _ d14 ["ways"] (Pr Pf preGy) := ok_gray (fun_of (st := sGray) F14) b gP F0.kp O0 B0
  have O15 : FnOk P w K mg base CX0 3 _ d15 ["shape"] (Pr Pf (preW (He.ga K "Grid") (preGN (He.ga K "Grid")) (preGF (He.ga K "Grid")))) := ok_widest (by decide) (by decide) (fun_of (st := sWidest) F15) b Gt.cl m4 O4 B4 m8 O8 B8
  have O15c : FnOk P w K mg base CX0 3 _ d15 ["shape"] (Pr Pf (preW (He.ga K "Cube") (preCN (He.ga K "Cube")) (preCF (He.ga K "Cube")))) := ok_widest (by decide) (by decide) (fun_of (st := sWidest) F15) b Ct.cl m10 O10 B10 m13 O13 B13
  have O16 : FnOk P w K mg base CX0 3 _ d16 ["shape", "one", "other"] (Pr Pf (preSB (He.ga K "Grid"))) := ok_steps (fun_of (st := sSteps) F16) b Gt.cl m6 O6 B6
  have O17 : FnOk P w K mg base CX0 4 _ d17 ["shape", "side"] (Pr Pf (preK (He.ga K "Grid"))) := ok_cut (fun_of (st := sCut) F17) b Gt.cl m7 O7 B7
  have O18 : FnOk P w K mg base CX0 1 _ d18 ["_law_rows"] (Pr Pf preFl) := ok_flat (fun_of (st := sFlat) F18)
  have O19 : FnOk P w K mg base CX0 1 _ d19 ["_law_cell"] (Pr Pf preDi) := ok_dice (fun_of (st := sDice) F19) b
  have O20 : FnOk P w K mg base CX0 1 _ d20 ["_law_dice_here", "_law_many"] spRoll := ok_roll (fun_of (st := sRoll) F20) b
  have gD := He.glo_ok X G (c.fact 10 (f := .glo "_law_dice") rfl)
  have O21 : FnOk P w K mg base CX0 2 _ d21 ["_law_script", "_law_most"] (spRounds K Pf) := ok_rounds (fun_of (st := sRounds) F21) gD F19.kp O19 B19
  have O23 : FnOk P w K mg base CX0 1 _ d23 ["_law_near", "_law_start"] (Pr Pf preFT) := ok_farT (fun_of (st := sFar) F23)
  have O23k : FnOk P w K mg base CX0 1 _ d23 ["_law_near", "_law_start"] (Pr Pf preFK) := ok_farK (fun_of (st := sFar) F23)
  exact ⟨{
        CG := He.ga K "Grid", CC := He.ga K "Cube", CE := He.ga K "BadSize", fGI := _, fGN := _, fGS := _, fGR := _, fGL := _, fGF := _, fCI := _, fCN := _, fCR := _, fCF := _, fRoll := _, fFlat := _, fFar := _, fRounds := _, fW := _, fSB := _, fK := _, fGy := _,
        dGI := d3, dGN := d4, dGS := d5, dGR := d6, dGL := d7, dGF := d8, dCI := d9, dCN := d10, dCR := d12, dCF := d13, dRoll := d20, dFlat := d18, dFar := d23, dRounds := d21, dW := d15, dSB := d16, dK := d17, dGy := d14,
        b := b, G := Gt, C := Ct, gG := He.glo_ok X G (c.fact 0 (f := .glo "Grid") rfl), gC := He.glo_ok X G (c.fact 1 (f := .glo "Cube") rfl),
        MG := He.mkr_ok (c.fact 53 (f := .mkr "Grid") rfl), MC := He.mkr_ok (c.fact 54 (f := .mkr "Cube") rfl), FGI := O3, bGI := B3, FCI := O9, bCI := B9,
        mGN := m4, FGN := O4, bGN := B4, mGS := m5, FGS := O5, bGS := B5, mGR := m6, FGR := O6, bGR := B6, mGL := m7, FGL := O7, bGL := B7, mGF := m8, FGF := O8, bGF := B8,
        mCN := m10, FCN := O10, bCN := B10, mCR := m12, FCR := O12, bCR := B12, mCF := m13, FCF := O13, bCF := B13,
        gRoll := He.glo_ok X G (c.fact 11 (f := .glo "_law_roll") rfl), kRoll := F20.kp, FRoll := O20, bRoll := B20,
        gFlat := He.glo_ok X G (c.fact 9 (f := .glo "_law_flat") rfl), kFlat := F18.kp, FFlat := O18, bFlat := B18,
        gFar := He.glo_ok X G (c.fact 14 (f := .glo "_law_far") rfl), kFar := F23.kp, FFarT := O23, FFarK := O23k, bFar := B23,
        gRounds := He.glo_ok X G (c.fact 12 (f := .glo "_law_rounds") rfl), kRounds := F21.kp, FRounds := O21, bRounds := B21,
        gW := He.glo_ok X G (c.fact 6 (f := .glo "widest") rfl), kW := F15.kp, FWG := O15, FWC := O15c, bW := B15,
        gSB := He.glo_ok X G (c.fact 7 (f := .glo "steps_between") rfl), kSB := F16.kp, FSB := O16, bSB := B16,
        gK := He.glo_ok X G (c.fact 8 (f := .glo "cut_links") rfl), kK := F17.kp, FK := O17, bK := B17,
        gGy := He.glo_ok X G (c.fact 5 (f := .glo "gray") rfl), kGy := F14.kp, FGy := O14, bGy := B14 }, rfl⟩
end
end K18

set_option Elab.async false
set_option linter.all false
set_option maxRecDepth 100000
set_option maxHeartbeats 0
/-! The law holds. -/
namespace K18
open PySem PySem.Spec PyProof.Rows L2
theorem factsL {w : World} {K : PySem.W.Frag} {h : Heap} {mg : Str → Option Value} {f : Addr} (X : K.In h) (G : h.Ns mainGlobals mg) (hfa : mg ("law" : Str) = some (.ref f)) (c : He.SaysX faL fnL [] tfL exL w h K) :
    LamX.LawAtS PySem.Challenge.rw_crossloom_k18_grids_and_cubes w K L2.CX0 6 63 "_law_script" mg f h := by
  have cd := c.t.d
  obtain ⟨fd, F⟩ := cd.def_ 24 (d := dG "law" sLaw) rfl
  have e := hfa.symm.trans (He.glo_ok X G (cd.fact 15 (f := .glo "law") rfl))
  cases e
  have hb := (fun_of (st := sLaw) F).binds (ps := ["_law_script"]) fun _ _ _ _ _ _ us hl => match us, hl with | [_], _ => rfl
  have m1 : (("law" : Str), (none : Option Str)) ∈ tfL := List.mem_cons_self
  have m2 : (("Cube" : Str), (some "far" : Option Str)) ∈ tfL := List.mem_cons_of_mem _ List.mem_cons_self
  have hne : (He.cT K ("law", none)).2 ≠ (He.cT K ("Cube", some "far")).2 := of_decide_eq_true c.more
  obtain ⟨U⟩ := totL X G cd
  have cases_ : ∀ p ∈ tfL.map (He.cT K), ∃ q ∈ tfL, He.cT K q = p := fun p hp => by
    obtain ⟨q, h1, h2⟩ := List.mem_map.mp hp
    exact ⟨q, h1, h2⟩
  refine ⟨fd, tfL.map (He.cT K), spLaw K (He.cT K ("Cube", some "far")).2 (He.cT K ("law", none)).2, fun p hp => ?_, fun p hp => ?_, fun p hp => ?_, fun s u => ?_, fun H a ns hl _ hH hS => ?_, fun base hK hG hT => ?_⟩
  · obtain ⟨q, hq, rfl⟩ := cases_ p hp
    exact c.empty q hq
  · obtain ⟨q, hq, rfl⟩ := cases_ p hp
    exact c.out q hq
  · obtain ⟨q, hq, rfl⟩ := cases_ p hp
    exact PySem.W.codeHd_of_K X (c.hd q hq)
  · obtain ⟨oc, od, dV, kV, doc, pm, an, cdv, ct, osl, rfl, lk, hcd, hd, _⟩ := F.ex
    have e := dflNone hd
    subst e
    exact .of_eq rfl
  · exact ⟨a, ns, rfl, hne, hH _ (List.mem_map.mpr ⟨_, m1, rfl⟩), hH _ (List.mem_map.mpr ⟨_, m2, rfl⟩), hS, hl, fun _ => rfl⟩
  · have tL := hT _ (List.mem_map.mpr ⟨_, m1, rfl⟩)
    have tF := hT _ (List.mem_map.mpr ⟨_, m2, rfl⟩)
    obtain ⟨T, hCE⟩ := ltL (P := (PySem.Challenge.rw_crossloom_k18_grids_and_cubes).prog) (w := w) (base := base) X G cd (He.cT K ("Cube", some "far")).2 ⟨tF.code, tF.bm, tF.gP⟩
    have U2 : ToT K mg T.CE := by
      rw [hCE]
      exact U
    exact ok_law T U2 (funC_of (st := sLaw) F) tL
end K18
open PySem PySem.W PySem.Calls PyProof.Rows
theorem PySem.Challenge.cw_crossloom_k18_grids_and_cubes_holds : PySem.Challenge.rw_crossloom_k18_grids_and_cubes.Holds := by
  w_on; o_law
  refine HandSHeadRun.head_any (r := OpenLaw.row PySem.Challenge.rw_crossloom_k18_grids_and_cubes) (q := view (OpenLaw.row PySem.Challenge.rw_crossloom_k18_grids_and_cubes).prog [29]) (H := K18.hkL) (ob := K18.obL) (M := 6000) (loose := K18.looseL) (d := HandSHeadRun.topDef (OpenLaw.row PySem.Challenge.rw_crossloom_k18_grids_and_cubes).prog 29) (kwd := []) K18.obL_eq
    (by kernel_rfl) (fun s => by kernel_rfl) K18.runL (by kernel_rfl) (by kernel_rfl) (by kernel_rfl) (by rfl) (by first | assumption | decide +kernel) (by decide +kernel) ⟨rfl, rfl, rfl, rfl, rfl, by decide +kernel⟩ ?hw ?hc
  case hw => w_witness2
  case hc =>
    refine LamX.walk_ofTsE (l := PySem.Challenge.rw_crossloom_k18_grids_and_cubes) (n := 63) (k := 6) (x := "_law_script") (CX := fun _ => L2.CX0) rfl (by decide) (by kernel_rfl) ⟨rfl, by decide, by decide⟩ ?F (fun _ _ _ _ _ z => z)
    intro w mg fa h Y G hmg0
    obtain ⟨K, KX, c⟩ := Y
    have hmg : mg ("law" : PySem.Str) = some (.ref fa) := by
      have e : (HandSHeadRun.topDef (OpenLaw.row PySem.Challenge.rw_crossloom_k18_grids_and_cubes).prog 29).name = ("law" : PySem.Str) := by kernel_rfl
      rw [← e]
      exact hmg0
    exact ⟨K, KX, K18.factsL KX G hmg c⟩
