import PyProof.Rows.All
import Wide.All
import OpenK.AllK
import Wide.FinOn
import HandS.ForMost
import HandS.ForExc
import HandS.Deep
import HandS.TupAny
import HandS.Style
import HandS.Zip
import HandS.IsInst
import HandS.Conv
import HandS.DictComp
import HandS.DictTup
import HandS.Flow
import HandS.More
import KE.KDictKeyed
import KE.KDictCopyH
import KE.SortData
import KE.DataCmp
import KE.KDictDisplayH
import KE.KDictSum
import KE.DataMinMax
import HandS.ExcInit
import HandS.ClsMeth
import HandS.Defaults
import KE.KExcIs
import HandS.ExcIs
import HandS.WordsExc
import HandS.CallSlots
import KE.KDictPairs
import PySem.Challenge.RW_blotbook_k13_whole_books_seen_otherwise
set_option Elab.async false
set_option linter.all false
set_option maxRecDepth 100000
/-! The data layer, 1: data, what stands for it, the state of slots and cells, the judgements. -/
namespace BB
open PySem PySem.Spec PyProof.Rows L2

/-- data: what a Python value is worth. lst, dct (keys tuples), dcs (keys ints, texts): frozen ones; ptr j: the j-th cell of the store -/
inductive D where
  | non | bl (b : Bool) | int (i : Int) | str (x : Str)
  | tup (ds : List D) | lst (ds : List D) | dct (ks vs : List D) | dcs (ks vs : List D) | ptr (j : Nat)

/-- what a cell of the store holds -/
inductive Cell where
  | lst (ds : List D) | dct (ks vs : List D) | dcs (ks vs : List D) | dead

/-- slots and cells -/
structure DS where
  sl : List (Option D)
  st : List Cell

/-- program, world, the written part -/
structure Gd where
  P : Program
  w : World
  K : PySem.W.Frag
abbrev gd (X : Cx) : Gd := ⟨X.prog, X.w, X.K⟩

mutual
def nkey : D → Option NestedKey
  | .non => some .none
  | .bl b => some (.num (if b = true then 1 else 0))
  | .int i => some (.num i)
  | .str x => some (.text x)
  | .tup ds => match nkeys ds with
    | some ks => some (.tup ks)
    | none => none
  | .lst _ => none
  | .dct _ _ => none
  | .dcs _ _ => none
  | .ptr _ => none
def nkeys : List D → Option (List NestedKey)
  | [] => some []
  | d :: ds => match nkey d, nkeys ds with
    | some k, some ks => some (k :: ks)
    | _, _ => none
end

abbrev Ents := List (NestedKey × Addr × Value)
/-- a dict keyed by tuples, as an object of the abstract heap -/
def dHO (G : Gd) (a : Addr) (xs : Ents) : HO := .ext fun h => ∃ o es ep, h.get? a = some o ∧ o.ExactDict ∧ o.data = .dict es ep ∧ es.toList = xs.map (entryOfKey (nestedKind G.P G.w)) ∧ (xs.map (·.1)).Nodup

/-- a list that never changes any more -/
def PsL (K : PySem.W.Frag) (H : Hp) (a : Addr) (xs : List V) : Prop := ∃ o, H a = some (.frz o (.lst xs))
theorem PsL.sq {K : PySem.W.Frag} {H : Hp} {a : Addr} {xs : List V} (h : PsL K H a xs) : SqL K H a xs := by
  obtain ⟨o, h⟩ := h
  exact .inl (.inr ⟨o, h⟩)

/-- a key that is an int or a text -/
def keyD : D → Option Key
  | .int i => some (.inl i)
  | .str x => some (.inr x)
  | _ => none

mutual
inductive Rep (G : Gd) (H : Hp) (as : List Addr) : V → D → Prop
  | non : Rep G H as .non .non
  | bl (b : Bool) : Rep G H as (.bl b) (.bl b)
  | int (i : Int) : Rep G H as (.int i) (.int i)
  | str (x : Str) : Rep G H as (.str x) (.str x)
  | tup {a : Addr} {xs : List V} {ds : List D} : SqT G.K H a xs → RepAll G H as xs ds → Rep G H as (.ref a) (.tup ds)
  | lst {a : Addr} {xs : List V} {ds : List D} : PsL G.K H a xs → RepAll G H as xs ds → Rep G H as (.ref a) (.lst ds)
  | dct {a : Addr} {o : Obj} {xs : Ents} {ks vs : List D} : H a = some (.frz o (dHO G a xs)) → (a == sysModules) = false → xs.length ≤ sizeLine → RepEnts G H as ks vs xs → Rep G H as (.ref a) (.dct ks vs)
  | dcs {a : Addr} {o : Obj} {kvs : List (Key × V)} {ks vs : List D} : H a = some (.frz o (.dK kvs)) → RepKV G H as ks vs kvs → Rep G H as (.ref a) (.dcs ks vs)
  | ptr {a : Addr} {j : Nat} : as[j]? = some a → Rep G H as (.ref a) (.ptr j)
inductive RepAll (G : Gd) (H : Hp) (as : List Addr) : List V → List D → Prop
  | nil : RepAll G H as [] []
  | cons {v : V} {vs : List V} {d : D} {ds : List D} : Rep G H as v d → RepAll G H as vs ds → RepAll G H as (v :: vs) (d :: ds)
inductive RepEnts (G : Gd) (H : Hp) (as : List Addr) : List D → List D → Ents → Prop
  | nil : RepEnts G H as [] [] []
  | cons {k d : D} {ks ds : List D} {n : NestedKey} {b : Addr} {v : V} {u : Value} {xs : Ents} : nkey k = some n → n.depth ≤ 8 → Rep G H as (.ref b) k → RelV v u → Rep G H as v d → RepEnts G H as ks ds xs → RepEnts G H as (k :: ks) (d :: ds) ((n, b, u) :: xs)
inductive RepKV (G : Gd) (H : Hp) (as : List Addr) : List D → List D → List (Key × V) → Prop
  | nil : RepKV G H as [] [] []
  | cons {k d : D} {ks ds : List D} {n : Key} {v : V} {xs : List (Key × V)} : keyD k = some n → Rep G H as v d → RepKV G H as ks ds xs → RepKV G H as (k :: ks) (d :: ds) ((n, v) :: xs)
end

/-- how a heap may grow where the cells at as are ours -/
structure Frm (as : List Addr) (H : Hp) (as' : List Addr) (H' : Hp) : Prop where
  pre : ∃ more, as' = as ++ more ∧ ∀ a ∈ more, H a = none
  tups : ∀ b xs, H b = some (.tup xs) → H' b = some (.tup xs)
  frzs : ∀ b o u, H b = some (.frz o u) → H' b = some (.frz o u)
  keep : ∀ b o, H b = some o → b ∉ as → H' b = some o
  live : ∀ b, H b ≠ none → H' b ≠ none
theorem Frm.refl (as : List Addr) (H : Hp) : Frm as H as H := ⟨⟨[], by simp, fun _ h => by cases h⟩, fun _ _ h => h, fun _ _ _ h => h, fun _ _ h _ => h, fun _ h => h⟩
theorem Frm.trans {as as1 as2 : List Addr} {H H1 H2 : Hp} (f : Frm as H as1 H1) (g : Frm as1 H1 as2 H2) : Frm as H as2 H2 := by
  obtain ⟨m1, e1, n1⟩ := f.pre
  obtain ⟨m2, e2, n2⟩ := g.pre
  refine ⟨⟨m1 ++ m2, by rw [e2, e1, List.append_assoc], fun a ha => ?_⟩, fun b xs h => g.tups b xs (f.tups b xs h), fun b o u h => g.frzs b o u (f.frzs b o u h), fun b o h hb => ?_, fun b h => g.live b (f.live b h)⟩
  · rcases List.mem_append.mp ha with ha | ha
    · exact n1 a ha
    · cases q : H a with
      | none => rfl
      | some o => exact absurd (n2 a ha) (f.live a (by rw [q]; exact fun z => nomatch z))
  · refine g.keep b o (f.keep b o h hb) ?_
    rw [e1]
    intro hm
    rcases List.mem_append.mp hm with hm | hm
    · exact hb hm
    · rw [n1 b hm] at h; cases h
theorem Frm.same {as : List Addr} {H H' : Hp} (s : Same H H') : Frm as H as H' :=
  ⟨⟨[], by simp, fun _ h => by cases h⟩, fun b xs h => s b _ h, fun b o u h => s b _ h, fun b o h _ => s b o h, fun b h z => by
    cases q : H b with
    | none => exact h q
    | some o => rw [s b o q] at z; cases z⟩
theorem Same.upd {H : Hp} {p : Addr} {o : HO} (hp : H p = none) : Same H (upd H p o) := fun b u e => by rw [upd_ne (ne_of_none e hp)]; exact e
/-- a cell's own object is changed -/
theorem Frm.cell {as : List Addr} {H : Hp} {a : Addr} {o u : HO} (ha : a ∈ as) (h : H a = some o) (mu : Mut (some o)) : Frm as H as (upd H a u) := by
  refine ⟨⟨[], by simp, fun _ h => by cases h⟩, fun b xs e => ?_, fun b o' u' e => ?_, fun b o' e hb => ?_, fun b e => ?_⟩
  · rw [upd_ne (fun z => by rw [z, h] at e; cases e; exact mu)]; exact e
  · rw [upd_ne (fun z => by rw [z, h] at e; cases e; exact mu)]; exact e
  · rw [upd_ne (fun z : b = a => hb (by rw [z]; exact ha))]; exact e
  · by_cases z : b = a
    · rw [z, upd_same]; exact fun q => nomatch q
    · rw [upd_ne z]; exact e

section
variable {G : Gd} {H H' : Hp} {as as' : List Addr}
theorem sqT_mono {K : PySem.W.Frag} (t : ∀ b xs, H b = some (.tup xs) → H' b = some (.tup xs)) (f : ∀ b o u, H b = some (.frz o u) → H' b = some (.frz o u)) {a : Addr} {xs : List V} (h : SqT K H a xs) : SqT K H' a xs := by
  rcases h with (h | ⟨o, h⟩) | h
  · exact .inl (.inl (t _ _ h))
  · exact .inl (.inr ⟨o, f _ _ _ h⟩)
  · exact .inr h
theorem psL_mono {K : PySem.W.Frag} (f : ∀ b o u, H b = some (.frz o u) → H' b = some (.frz o u)) {a : Addr} {xs : List V} (h : PsL K H a xs) : PsL K H' a xs := by
  obtain ⟨o, h⟩ := h
  exact ⟨o, f _ _ _ h⟩
mutual
theorem Rep.mono (t : ∀ b xs, H b = some (.tup xs) → H' b = some (.tup xs)) (f : ∀ b o u, H b = some (.frz o u) → H' b = some (.frz o u)) (p : ∀ (j : Nat) (a : Addr), as[j]? = some a → as'[j]? = some a) : ∀ {v : V} {d : D}, Rep G H as v d → Rep G H' as' v d
  | _, _, .non => .non
  | _, _, .bl b => .bl b
  | _, _, .int i => .int i
  | _, _, .str x => .str x
  | _, _, .tup h r => .tup (sqT_mono t f h) (RepAll.mono t f p r)
  | _, _, .lst h r => .lst (psL_mono f h) (RepAll.mono t f p r)
  | _, _, .dct h m z r => .dct (f _ _ _ h) m z (RepEnts.mono t f p r)
  | _, _, .dcs h r => .dcs (f _ _ _ h) (RepKV.mono t f p r)
  | _, _, .ptr h => .ptr (p _ _ h)
theorem RepAll.mono (t : ∀ b xs, H b = some (.tup xs) → H' b = some (.tup xs)) (f : ∀ b o u, H b = some (.frz o u) → H' b = some (.frz o u)) (p : ∀ (j : Nat) (a : Addr), as[j]? = some a → as'[j]? = some a) : ∀ {v : List V} {d : List D}, RepAll G H as v d → RepAll G H' as' v d
  | _, _, .nil => .nil
  | _, _, .cons h r => .cons (Rep.mono t f p h) (RepAll.mono t f p r)
theorem RepEnts.mono (t : ∀ b xs, H b = some (.tup xs) → H' b = some (.tup xs)) (f : ∀ b o u, H b = some (.frz o u) → H' b = some (.frz o u)) (p : ∀ (j : Nat) (a : Addr), as[j]? = some a → as'[j]? = some a) : ∀ {k d : List D} {xs : Ents}, RepEnts G H as k d xs → RepEnts G H' as' k d xs
  | _, _, _, .nil => .nil
  | _, _, _, .cons h1 h2 h3 h4 h5 r => .cons h1 h2 (Rep.mono t f p h3) h4 (Rep.mono t f p h5) (RepEnts.mono t f p r)
theorem RepKV.mono (t : ∀ b xs, H b = some (.tup xs) → H' b = some (.tup xs)) (f : ∀ b o u, H b = some (.frz o u) → H' b = some (.frz o u)) (p : ∀ (j : Nat) (a : Addr), as[j]? = some a → as'[j]? = some a) : ∀ {k d : List D} {xs : List (Key × V)}, RepKV G H as k d xs → RepKV G H' as' k d xs
  | _, _, _, .nil => .nil
  | _, _, _, .cons h1 h5 r => .cons h1 (Rep.mono t f p h5) (RepKV.mono t f p r)
end
theorem Frm.ix (fr : Frm as H as' H') : ∀ (j : Nat) (a : Addr), as[j]? = some a → as'[j]? = some a := fun j a h => by
  obtain ⟨m, e, _⟩ := fr.pre
  rw [e, List.getElem?_append_left (List.getElem?_eq_some_iff.mp h).1]; exact h
theorem Rep.frm (fr : Frm as H as' H') {v : V} {d : D} (r : Rep G H as v d) : Rep G H' as' v d := r.mono fr.tups fr.frzs fr.ix
theorem RepAll.frm (fr : Frm as H as' H') {v : List V} {d : List D} (r : RepAll G H as v d) : RepAll G H' as' v d := r.mono fr.tups fr.frzs fr.ix
theorem RepEnts.frm (fr : Frm as H as' H') {k d : List D} {xs : Ents} (r : RepEnts G H as k d xs) : RepEnts G H' as' k d xs := r.mono fr.tups fr.frzs fr.ix
theorem RepKV.frm (fr : Frm as H as' H') {k d : List D} {xs : List (Key × V)} (r : RepKV G H as k d xs) : RepKV G H' as' k d xs := r.mono fr.tups fr.frzs fr.ix
theorem RepAll.up (up : ∀ v d, Rep G H as v d → Rep G H' as' v d) : ∀ {v : List V} {d : List D}, RepAll G H as v d → RepAll G H' as' v d
  | _, _, .nil => .nil
  | _, _, .cons h r => .cons (up _ _ h) (RepAll.up up r)
theorem RepEnts.up (up : ∀ v d, Rep G H as v d → Rep G H' as' v d) : ∀ {k d : List D} {xs : Ents}, RepEnts G H as k d xs → RepEnts G H' as' k d xs
  | _, _, _, .nil => .nil
  | _, _, _, .cons h1 h2 h3 h4 h5 r => .cons h1 h2 (up _ _ h3) h4 (up _ _ h5) (RepEnts.up up r)
theorem RepKV.up (up : ∀ v d, Rep G H as v d → Rep G H' as' v d) : ∀ {k d : List D} {xs : List (Key × V)}, RepKV G H as k d xs → RepKV G H' as' k d xs
  | _, _, _, .nil => .nil
  | _, _, _, .cons h1 h5 r => .cons h1 (up _ _ h5) (RepKV.up up r)
theorem RepAll.length : ∀ {vs : List V} {ds : List D}, RepAll G H as vs ds → vs.length = ds.length
  | _, _, .nil => rfl
  | _, _, .cons _ r => by simp [RepAll.length r]
theorem RepAll.get : ∀ {vs : List V} {ds : List D} {i : Nat} {d : D}, RepAll G H as vs ds → ds[i]? = some d → ∃ v, vs[i]? = some v ∧ Rep G H as v d
  | _, _, _, _, .nil, e => by simp at e
  | _, _, 0, _, .cons h _, e => by simp at e; subst e; exact ⟨_, rfl, h⟩
  | _, _, i + 1, _, .cons _ r, e => by
    obtain ⟨v, h1, h2⟩ := RepAll.get (i := i) r (by simpa using e)
    exact ⟨v, by simpa using h1, h2⟩
theorem RepAll.get' : ∀ {vs : List V} {ds : List D} {i : Nat} {v : V}, RepAll G H as vs ds → vs[i]? = some v → ∃ d, ds[i]? = some d ∧ Rep G H as v d
  | _, _, _, _, .nil, e => by simp at e
  | _, _, 0, _, .cons h _, e => by simp at e; subst e; exact ⟨_, rfl, h⟩
  | _, _, i + 1, _, .cons _ r, e => by
    obtain ⟨d, h1, h2⟩ := RepAll.get' (i := i) r (by simpa using e)
    exact ⟨d, by simpa using h1, h2⟩
theorem RepAll.append : ∀ {vs us : List V} {ds es : List D}, RepAll G H as vs ds → RepAll G H as us es → RepAll G H as (vs ++ us) (ds ++ es)
  | _, _, _, _, .nil, s => s
  | _, _, _, _, .cons h r, s => .cons h (RepAll.append r s)
theorem RepAll.take : ∀ {vs : List V} {ds : List D} (n : Nat), RepAll G H as vs ds → RepAll G H as (vs.take n) (ds.take n)
  | _, _, 0, _ => .nil
  | _, _, _ + 1, .nil => .nil
  | _, _, n + 1, .cons h r => .cons h (RepAll.take n r)
theorem RepAll.drop : ∀ {vs : List V} {ds : List D} (n : Nat), RepAll G H as vs ds → RepAll G H as (vs.drop n) (ds.drop n)
  | _, _, 0, r => r
  | _, _, _ + 1, .nil => .nil
  | _, _, n + 1, .cons h r => RepAll.drop n r
theorem RepAll.reverse {vs : List V} {ds : List D} (r : RepAll G H as vs ds) : RepAll G H as vs.reverse ds.reverse := by
  induction vs generalizing ds with
  | nil => cases r; exact .nil
  | cons v vs ih =>
    cases r with
    | cons h r => rw [List.reverse_cons, List.reverse_cons]; exact (ih r).append (.cons h .nil)
theorem RepAll.set {v : V} {d : D} (h : Rep G H as v d) : ∀ {vs : List V} {ds : List D} (i : Nat), RepAll G H as vs ds → RepAll G H as (vs.set i v) (ds.set i d)
  | _, _, _, .nil => .nil
  | _, _, 0, .cons _ r => .cons h r
  | _, _, i + 1, .cons q r => .cons q (RepAll.set h i r)
end

/-! ### cells, the store, the state -/
def CellOk (G : Gd) (H : Hp) (as : List Addr) (a : Addr) : Cell → Prop
  | .lst ds => ∃ xs, H a = some (.lst xs) ∧ RepAll G H as xs ds
  | .dct ks vs => ∃ xs, H a = some (dHO G a xs) ∧ (a == sysModules) = false ∧ xs.length ≤ sizeLine ∧ RepEnts G H as ks vs xs
  | .dcs ks vs => ∃ kvs, H a = some (.dK kvs) ∧ RepKV G H as ks vs kvs
  | .dead => H a ≠ none
structure RepSt (G : Gd) (H : Hp) (as : List Addr) (st : List Cell) : Prop where
  len : as.length = st.length
  nd : as.Nodup
  ok : ∀ (j : Nat) (c : Cell) (a : Addr), st[j]? = some c → as[j]? = some a → CellOk G H as a c
structure RepS (G : Gd) (H : Hp) (as : List Addr) (σ : L2.St) (ρ : DS) : Prop where
  len : σ.length = ρ.sl.length
  slot : ∀ (i : Nat) (d : D), ρ.sl[i]? = some (some d) → ∃ v, σ[i]? = some (some v) ∧ Rep G H as v d
  st : RepSt G H as ρ.st
section
variable {G : Gd} {H H' : Hp} {as as' : List Addr} {st : List Cell} {σ : L2.St} {ρ : DS}
theorem CellOk.live {a : Addr} {c : Cell} (h : CellOk G H as a c) : H a ≠ none := by
  cases c with
  | lst ds => obtain ⟨xs, e, _⟩ := h; rw [e]; exact fun z => nomatch z
  | dct ks vs => obtain ⟨xs, e, _⟩ := h; rw [e]; exact fun z => nomatch z
  | dcs ks vs => obtain ⟨xs, e, _⟩ := h; rw [e]; exact fun z => nomatch z
  | dead => exact h
theorem RepSt.live (r : RepSt G H as st) : ∀ a ∈ as, H a ≠ none := fun a ha => by
  obtain ⟨j, hj, e⟩ := List.getElem_of_mem ha
  have h2 : j < st.length := by rw [← r.len]; exact hj
  exact (r.ok j st[j] a (by simp [h2]) (by simp [hj, e])).live
theorem RepSt.notin (r : RepSt G H as st) {p : Addr} (hp : H p = none) : p ∉ as := fun h => r.live p h hp
/-- a cell whose object stays, where what stands for data stays -/
theorem CellOk.up {a : Addr} (ha : ∀ o, H a = some o → H' a = some o) (up : ∀ v d, Rep G H as v d → Rep G H' as' v d) {c : Cell} (h : CellOk G H as a c) : CellOk G H' as' a c := by
  cases c with
  | lst ds => obtain ⟨xs, e, r⟩ := h; exact ⟨xs, ha _ e, r.up up⟩
  | dct ks vs => obtain ⟨xs, e, m, z, r⟩ := h; exact ⟨xs, ha _ e, m, z, r.up up⟩
  | dcs ks vs => obtain ⟨xs, e, r⟩ := h; exact ⟨xs, ha _ e, r.up up⟩
  | dead =>
    cases q : H a with
    | none => exact absurd q h
    | some o => show H' a ≠ none; rw [ha o q]; exact fun z => nomatch z
/-- only new things stand in the heap -/
theorem CellOk.same (s : Same H H') {a : Addr} {c : Cell} (h : CellOk G H as a c) : CellOk G H' as a c := h.up (s a) fun v d r => r.frm (.same s)
theorem RepSt.same (s : Same H H') (r : RepSt G H as st) : RepSt G H' as st := ⟨r.len, r.nd, fun j c a h1 h2 => (r.ok j c a h1 h2).same s⟩
theorem RepS.same (s : Same H H') (r : RepS G H as σ ρ) : RepS G H' as σ ρ := ⟨r.len, fun i d h => by
  obtain ⟨v, e, q⟩ := r.slot i d h
  exact ⟨v, e, q.frm (.same s)⟩, r.st.same s⟩
theorem CellOk.other {a b : Addr} {o u : HO} (hb : b ∈ as) (e : H b = some o) (mu : Mut (some o)) (hab : a ≠ b) {c : Cell} (h : CellOk G H as a c) : CellOk G (upd H b u) as a c := h.up (fun o e => by rw [upd_ne hab]; exact e) fun v d r => r.frm (.cell hb e mu)
theorem nodup_ixA {l : List Addr} (hN : l.Nodup) {i j : Nat} {x : Addr} (a : l[i]? = some x) (b : l[j]? = some x) : i = j := by
  obtain ⟨h1, e1⟩ := List.getElem?_eq_some_iff.mp a
  obtain ⟨h2, e2⟩ := List.getElem?_eq_some_iff.mp b
  exact (List.getElem_inj hN).mp (e1.trans e2.symm)
/-- a cell is written -/
theorem RepSt.write (r : RepSt G H as st) {j : Nat} {b : Addr} {o u : HO} {c' : Cell} (hb : as[j]? = some b) (e : H b = some o) (mu : Mut (some o)) (new : CellOk G (upd H b u) as b c') : RepSt G (upd H b u) as (st.set j c') := by
  refine ⟨by rw [List.length_set]; exact r.len, r.nd, fun i c a h1 h2 => ?_⟩
  have hj : j < st.length := by rw [← r.len]; exact (List.getElem?_eq_some_iff.mp hb).1
  by_cases hij : i = j
  · subst hij
    rw [List.getElem?_set_self hj] at h1
    rw [hb] at h2
    cases h1; cases h2
    exact new
  · rw [List.getElem?_set_ne (Ne.symm hij)] at h1
    refine (r.ok i c a h1 h2).other (List.mem_of_getElem? hb) e mu ?_
    intro hab
    subst hab
    exact hij (nodup_ixA r.nd h2 hb)
theorem RepS.write (r : RepS G H as σ ρ) {j : Nat} {b : Addr} {o u : HO} {c' : Cell} (hb : as[j]? = some b) (e : H b = some o) (mu : Mut (some o)) (new : CellOk G (upd H b u) as b c') : RepS G (upd H b u) as σ { ρ with st := ρ.st.set j c' } :=
  ⟨r.len, fun i d h => by
    obtain ⟨v, e', q⟩ := r.slot i d h
    exact ⟨v, e', q.frm (.cell (List.mem_of_getElem? hb) e mu)⟩, r.st.write hb e mu new⟩
/-- a new cell -/
theorem RepSt.alloc (r : RepSt G H as st) {p : Addr} {o : HO} {c : Cell} (hp : H p = none) (new : CellOk G (upd H p o) (as ++ [p]) p c) : RepSt G (upd H p o) (as ++ [p]) (st ++ [c]) := by
  have f : Frm as H (as ++ [p]) (upd H p o) := ⟨⟨[p], rfl, fun a ha => by rw [List.mem_singleton.mp ha]; exact hp⟩, (Frm.same (as := as) (Same.upd hp)).tups, (Frm.same (as := as) (Same.upd hp)).frzs, (Frm.same (as := as) (Same.upd hp)).keep, (Frm.same (as := as) (Same.upd hp)).live⟩
  refine ⟨by simp [r.len], ?_, fun j c' a h1 h2 => ?_⟩
  · rw [List.nodup_append]
    refine ⟨r.nd, by simp, fun x hx y hy => ?_⟩
    rw [List.mem_singleton.mp hy]
    exact fun z => r.notin hp (by rw [← z]; exact hx)
  · by_cases hj : j < st.length
    · rw [List.getElem?_append_left hj] at h1
      rw [List.getElem?_append_left (by rw [r.len]; exact hj)] at h2
      have q := r.ok j c' a h1 h2
      have hne : a ≠ p := fun z => r.notin hp (by rw [← z]; exact List.mem_of_getElem? h2)
      exact q.up (fun o e => by rw [upd_ne hne]; exact e) fun v d r => r.frm f
    · have hj' : j = st.length := by
        have := (List.getElem?_eq_some_iff.mp h1).1
        simp at this
        omega
      subst hj'
      rw [List.getElem?_append_right (Nat.le_refl _)] at h1
      rw [List.getElem?_append_right (by rw [r.len]; exact Nat.le_refl _), r.len] at h2
      simp at h1 h2
      subst h1; subst h2
      exact new
theorem Frm.alloc (as : List Addr) {p : Addr} {o : HO} (hp : H p = none) : Frm as H (as ++ [p]) (upd H p o) :=
  ⟨⟨[p], rfl, fun a ha => by rw [List.mem_singleton.mp ha]; exact hp⟩, (Frm.same (as := as) (Same.upd hp)).tups, (Frm.same (as := as) (Same.upd hp)).frzs, (Frm.same (as := as) (Same.upd hp)).keep, (Frm.same (as := as) (Same.upd hp)).live⟩
theorem RepS.alloc (r : RepS G H as σ ρ) {p : Addr} {o : HO} {c : Cell} (hp : H p = none) (new : CellOk G (upd H p o) (as ++ [p]) p c) : RepS G (upd H p o) (as ++ [p]) σ { ρ with st := ρ.st ++ [c] } :=
  ⟨r.len, fun i d h => by
    obtain ⟨v, e', q⟩ := r.slot i d h
    exact ⟨v, e', q.frm (.alloc as hp)⟩, r.st.alloc hp new⟩
theorem RepS.setSlot (r : RepS G H as σ ρ) (i : Nat) {v : V} {d : D} (h : Rep G H as v d) : RepS G H as (σ.set i (some v)) { ρ with sl := ρ.sl.set i (some d) } := by
  refine ⟨by simp [r.len], fun j e hj => ?_, r.st⟩
  by_cases hij : j = i
  · subst hij
    have hlt : j < ρ.sl.length := by
      have := (List.getElem?_eq_some_iff.mp hj).1
      simpa using this
    simp only [List.getElem?_set_self hlt] at hj
    cases hj
    exact ⟨v, by rw [List.getElem?_set_self (by rw [r.len]; exact hlt)], h⟩
  · simp only [List.getElem?_set_ne (Ne.symm hij)] at hj
    obtain ⟨w, e1, e2⟩ := r.slot j e hj
    exact ⟨w, by rw [List.getElem?_set_ne (Ne.symm hij)]; exact e1, e2⟩
end
end BB
set_option maxRecDepth 100000
/-! The data layer, 2: the judgements over data, expressions. -/
namespace BB
open PySem PySem.Spec PyProof.Rows L2

abbrev DE := DS → (D → DS → Prop) → Prop
abbrev DT := DS → (Bool → DS → Prop) → Prop
abbrev DA := DS → (List D → DS → Prop) → Prop
structure DEnds where
  nx : DS → Prop
  rt : D → List Cell → Prop
  bk : DS → Prop := fun _ => False
  ct : DS → Prop := fun _ => False
abbrev DP := DEnds → DS → Prop

def liftE (G : Gd) (d : DE) : TE := fun σ H Q => ∃ as ρ P, RepS G H as σ ρ ∧ d ρ P ∧ ∀ x ρ' as' v H', P x ρ' → RepS G H' as' σ ρ' → Rep G H' as' v x → Frm as H as' H' → Q v H'
def liftT (G : Gd) (d : DT) : TT := fun σ H Q => ∃ as ρ P, RepS G H as σ ρ ∧ d ρ P ∧ ∀ b ρ' as' H', P b ρ' → RepS G H' as' σ ρ' → Frm as H as' H' → Q b H'
def liftA (G : Gd) (d : DA) : TA := fun σ H Q => ∃ as ρ P, RepS G H as σ ρ ∧ d ρ P ∧ ∀ xs ρ' as' vs H', P xs ρ' → RepS G H' as' σ ρ' → RepAll G H' as' vs xs → Frm as H as' H' → Q vs H'
structure EndsOk (G : Gd) (P : DEnds) (as : List Addr) (H : Hp) (E : Ends) : Prop where
  nx : ∀ ρ' as' σ' H', P.nx ρ' → RepS G H' as' σ' ρ' → Frm as H as' H' → E.nx σ' H'
  rt : ∀ x st' as' v H', P.rt x st' → RepSt G H' as' st' → Rep G H' as' v x → Frm as H as' H' → E.rt v H'
  bk : ∀ ρ' as' σ' H', P.bk ρ' → RepS G H' as' σ' ρ' → Frm as H as' H' → E.bk σ' H'
  ct : ∀ ρ' as' σ' H', P.ct ρ' → RepS G H' as' σ' ρ' → Frm as H as' H' → E.ct σ' H'
def liftP (G : Gd) (d : DP) : TS := fun E σ H => ∃ as ρ P, RepS G H as σ ρ ∧ d P ρ ∧ EndsOk G P as H E

def DEx (X : Cx) (e : Expr) (d : DE) : Prop := PE X e (liftE (gd X) d)
def DTx (X : Cx) (e : Expr) (d : DT) : Prop := PT X e (liftT (gd X) d)
def DWx (X : Cx) (e : Expr) (d : DT) : Prop := PW X e (liftT (gd X) d)
def DAx (X : Cx) (es : List Expr) (d : DA) : Prop := PA X es (liftA (gd X) d)
def DPx (X : Cx) (st : Stmt) (d : DP) : Prop := PS X st (liftP (gd X) d)
def DPs (X : Cx) (sts : List Stmt) (d : DP) : Prop := PSs X sts (liftP (gd X) d)

section
variable {X : Cx}
theorem pe_con' {e : Expr} {t t' : TE} (h : PE X e t) (c : ∀ σ H Q, t' σ H Q → t σ H Q) : PE X e t' := ⟨fun pins s σ H Q I q => h.run pins s σ H Q I (c σ H Q q)⟩
theorem pt_con' {e : Expr} {t t' : TT} (h : PT X e t) (c : ∀ σ H Q, t' σ H Q → t σ H Q) : PT X e t' := ⟨fun pins s σ H Q I q => h.run pins s σ H Q I (c σ H Q q)⟩
theorem pw_con' {e : Expr} {t t' : TT} (h : PW X e t) (c : ∀ σ H Q, t' σ H Q → t σ H Q) : PW X e t' := ⟨fun wh pins s σ H Q I q => h.run wh pins s σ H Q I (c σ H Q q)⟩
theorem pa_con' {e : List Expr} {t t' : TA} (h : PA X e t) (c : ∀ σ H Q, t' σ H Q → t σ H Q) : PA X e t' := ⟨fun pos pins s σ H Q I q => h.run pos pins s σ H Q I (c σ H Q q)⟩
theorem ps_con' {e : Stmt} {t t' : TS} (h : PS X e t) (c : ∀ D σ H, t' D σ H → t D σ H) : PS X e t' := ⟨fun pins s σ H D I q => h.run pins s σ H D I (c D σ H q)⟩
theorem pss_con' {e : List Stmt} {t t' : TS} (h : PSs X e t) (c : ∀ D σ H, t' D σ H → t D σ H) : PSs X e t' := ⟨fun pins s σ H D I q => h.run pins s σ H D I (c D σ H q)⟩

/-! ### names, constants -/
def dVar (i : Nat) : DE := fun ρ Q => ∃ d, ρ.sl[i]? = some (some d) ∧ Q d ρ
def dC (d : D) : DE := fun ρ Q => Q d ρ
theorem de_var (i : Nat) {x : Str} {pos : Pos} (hN : X.N[i]? = some x := by rfl) (hv : Vis X.env.scope x := by first | exact Or.inl rfl | exact Or.inr (Or.inl rfl) | exact Or.inr (Or.inr rfl)) (hd : (x == ("__debug__" : Str)) = false := by decide)
    (hcd : (x == ("__classdict__" : Str)) = false := by decide) : DEx X (.Name x pos) (dVar i) :=
  pe_con' (pe_var hN hv hd hcd) fun σ H Q ⟨as, ρ, P, R, ⟨d, e, p⟩, k⟩ => by
    obtain ⟨v, ev, r⟩ := R.slot i d e
    exact ⟨v, ev, k d ρ as v H p R r (.refl _ _)⟩
theorem de_c {e : Expr} {v : V} {d : D} (h : PE X e (tC v)) (r : ∀ G H as, Rep G H as v d) : DEx X e (dC d) :=
  pe_con' h fun σ H Q ⟨as, ρ, P, R, p, k⟩ => k d ρ as v H p R (r _ _ _) (.refl _ _)
theorem de_int {i j pos} : DEx X (.Constant (.int i) j pos) (dC (.int i)) := de_c pe_int fun _ _ _ => .int _
theorem de_bl {b j pos} : DEx X (.Constant (.bool b) j pos) (dC (.bl b)) := de_c pe_bl fun _ _ _ => .bl _
theorem de_non {j pos} : DEx X (.Constant .none j pos) (dC .non) := de_c pe_non fun _ _ _ => .non
theorem de_str {x j pos} : DEx X (.Constant (.str x) j pos) (dC (.str x)) := de_c pe_str fun _ _ _ => .str _
theorem de_gint {x : Str} {i : Int} {t : Tok} {pos : Pos} (hg : Gl X x) (hm : X.mg x = some (.int i t)) (hd : (x == ("__debug__" : Str)) = false := by decide) : DEx X (.Name x pos) (dC (.int i)) :=
  de_c (pe_glob hg hm (v := .int i) ⟨t, rfl⟩ hd) fun _ _ _ => .int _
theorem de_gstr {x y : Str} {t : Tok} {pos : Pos} (hg : Gl X x) (hm : X.mg x = some (.str y t)) (hd : (x == ("__debug__" : Str)) = false := by decide) : DEx X (.Name x pos) (dC (.str y)) :=
  de_c (pe_glob hg hm (v := .str y) ⟨t, rfl⟩ hd) fun _ _ _ => .str _

/-! ### rules by values -/
abbrev WP1 := D → List Cell → (D → Prop) → Prop
abbrev WP2 := D → D → List Cell → (D → Prop) → Prop
abbrev WPn := List D → List Cell → (D → Prop) → Prop
def lift1 (G : Gd) (g : WP1) : V → Hp → VK → Prop := fun x H Q => ∃ as st dx P, RepSt G H as st ∧ Rep G H as x dx ∧ g dx st P ∧ ∀ z v H', P z → Same H H' → Rep G H' as v z → Q v H'
def lift2 (G : Gd) (g : WP2) : R2 := fun x y H Q => ∃ as st dx dy P, RepSt G H as st ∧ Rep G H as x dx ∧ Rep G H as y dy ∧ g dx dy st P ∧ ∀ z v H', P z → Same H H' → Rep G H' as v z → Q v H'
def liftN (G : Gd) (g : WPn) : List V → Hp → VK → Prop := fun xs H Q => ∃ as st ds P, RepSt G H as st ∧ RepAll G H as xs ds ∧ g ds st P ∧ ∀ z v H', P z → Same H H' → Rep G H' as v z → Q v H'

/-- a new list is frozen at once -/
def frzQ (Q : VK) : VK := fun v H' => ∃ a xs, v = .ref a ∧ H' a = some (.lst xs) ∧ ∀ o, Q v (upd H' a (.frz o (.lst xs)))
theorem EP.frz {pins : List (Addr × Obj)} {σ : L2.St} {Q : VK} {u : Value} {s' : Shared} (h : EP X pins σ (frzQ Q) u s') : EP X pins σ Q u s' := by
  obtain ⟨v, H', I, r, a, xs, rfl, e, k⟩ := h
  obtain ⟨od, I'⟩ := I.lock e trivial
  exact ⟨_, _, I', r, k od⟩
/-- .. a new dict -/
def frzDQ (G : Gd) (Q : VK) : VK := fun v H' => ∃ a xs, v = .ref a ∧ H' a = some (dHO G a xs) ∧ ∀ o, Q v (upd H' a (.frz o (dHO G a xs)))
theorem EP.frzD {pins : List (Addr × Obj)} {σ : L2.St} {Q : VK} {u : Value} {s' : Shared} (h : EP X pins σ (frzDQ (gd X) Q) u s') : EP X pins σ Q u s' := by
  obtain ⟨v, H', I, r, a, xs, rfl, e, k⟩ := h
  obtain ⟨od, I'⟩ := I.lock e trivial
  exact ⟨_, _, I', r, k od⟩
theorem pe_frz {e : Expr} {t : TE} (h : PE X e t) : PE X e (fun σ H Q => t σ H (frzQ Q)) := ⟨fun pins s σ H Q I q => thn (h.run pins s σ H _ I q) fun _ _ z => EP.frz z⟩
theorem callR_frz {f : Value} {r : List V → Hp → VK → Prop} (h : CallR X f r) : CallR X f (fun xs H Q => r xs H (frzQ Q)) := fun pins s σ H xs us Q I rv q => thn (h pins s σ H xs us _ I rv q) fun _ _ z => EP.frz z
theorem opR_frz {f : Value → Value → Sem Value} {r : R2} (h : OpR X f r) : OpR X f (fun x y H Q => r x y H (frzQ Q)) := fun pins s σ H x y v u Q I rx ry q => thn (h pins s σ H x y v u _ I rx ry q) fun _ _ z => EP.frz z
theorem callR_con {f : Value} {r r' : List V → Hp → VK → Prop} (h : CallR X f r) (c : ∀ xs H Q, r' xs H Q → r xs H Q) : CallR X f r' := fun pins s σ H xs us Q I rv q => h pins s σ H xs us Q I rv (c _ _ _ q)
theorem opR_con {f : Value → Value → Sem Value} {r r' : R2} (h : OpR X f r) (c : ∀ x y H Q, r' x y H Q → r x y H Q) : OpR X f r' := fun pins s σ H x y v u Q I rx ry q => h pins s σ H x y v u Q I rx ry (c _ _ _ _ q)
/-- a new list that is frozen at once stands for lst ds -/
theorem frzQ_new {G : Gd} {as : List Addr} {H : Hp} {Q : VK} {ys : List V} {ds : List D} {P : D → Prop} (p : Addr) (hp : H p = none) (r : RepAll G H as ys ds) (pz : P (.lst ds)) (k : ∀ z v H', P z → Same H H' → Rep G H' as v z → Q v H') : frzQ Q (.ref p) (upd H p (.lst ys)) := by
  refine ⟨p, ys, rfl, upd_same, fun o => ?_⟩
  rw [upd_upd]
  have s : Same H (upd H p (.frz o (.lst ys))) := Same.upd hp
  exact k _ _ _ pz s (.lst ⟨o, upd_same⟩ (r.frm (.same s)))
theorem new_tup {G : Gd} {as : List Addr} {H : Hp} {Q : VK} {ys : List V} {ds : List D} {P : D → Prop} (p : Addr) (hp : H p = none) (r : RepAll G H as ys ds) (pz : P (.tup ds)) (k : ∀ z v H', P z → Same H H' → Rep G H' as v z → Q v H') : Q (.ref p) (upd H p (.tup ys)) := by
  have s : Same H (upd H p (.tup ys)) := Same.upd hp
  exact k _ _ _ pz s (.tup (SqT.of upd_same) (r.frm (.same s)))

/-! ### two-place operations -/
def dOp (g : WP2) (a b : DE) : DE := fun ρ Q => a ρ fun x ρ1 => b ρ1 fun y ρ2 => g x y ρ2.st fun z => Q z ρ2
theorem lift_op {G : Gd} {g : WP2} {da db : DE} {σ : L2.St} {H : Hp} {Q : VK} (h : liftE G (dOp g da db) σ H Q) : tOp (lift2 G g) (liftE G da) (liftE G db) σ H Q := by
  obtain ⟨as, ρ, P, R, w, k⟩ := h
  refine ⟨as, ρ, _, R, w, fun x ρ1 as1 v1 H1 w1 R1 r1 f1 => ?_⟩
  refine ⟨as1, ρ1, _, R1, w1, fun y ρ2 as2 v2 H2 w2 R2 r2 f2 => ?_⟩
  refine ⟨as2, ρ2.st, x, y, _, R2.st, r1.frm f2, r2, w2, fun z v H3 pz s r => ?_⟩
  exact k z ρ2 as2 v H3 pz (R2.same s) r ((f1.trans f2).trans (.same s))
theorem de_op {op : Operator} {g : WP2} {a b : Expr} {da db : DE} {pos : Pos} (ho : OpR X (binaryOp op) (lift2 (gd X) g)) (ha : DEx X a da) (hb : DEx X b db) : DEx X (.BinOp a op b pos) (dOp g da db) :=
  pe_con' (pe_op ho ha hb) fun _ _ _ h => lift_op h
theorem de_cmp {op : CmpOp} {g : WP2} {a b : Expr} {da db : DE} {pos : Pos} (ho : OpR X (compareOp op) (lift2 (gd X) g)) (ha : DEx X a da) (hb : DEx X b db) (hm : behindInMarks op b = false := by first | exact nomark _ | rfl) : DEx X (.Compare a [op] [b] pos) (dOp g da db) :=
  pe_con' (pe_cmpR ho ha hb hm) fun _ _ _ h => lift_op h
/-- a value that is a bool, as a test -/
def dB (d : DE) : DT := fun ρ Q => d ρ fun x ρ' => ∃ b, x = .bl b ∧ Q b ρ'
theorem rep_bl {G : Gd} {H : Hp} {as : List Addr} {v : V} {b : Bool} (r : Rep G H as v (.bl b)) : v = .bl b := by cases r; rfl
theorem rep_int {G : Gd} {H : Hp} {as : List Addr} {v : V} {b : Int} (r : Rep G H as v (.int b)) : v = .int b := by cases r; rfl
theorem rep_str {G : Gd} {H : Hp} {as : List Addr} {v : V} {b : Str} (r : Rep G H as v (.str b)) : v = .str b := by cases r; rfl
theorem rep_non {G : Gd} {H : Hp} {as : List Addr} {v : V} (r : Rep G H as v .non) : v = .non := by cases r; rfl
theorem lift_test {G : Gd} {d : DE} {t : TE} (c : ∀ σ H Q, liftE G d σ H Q → t σ H Q) {σ : L2.St} {H : Hp} {Q : Bool → Hp → Prop} (h : liftT G (dB d) σ H Q) : tTest t σ H Q := by
  obtain ⟨as, ρ, P, R, w, k⟩ := h
  refine c _ _ _ ⟨as, ρ, _, R, w, fun x ρ' as' v H' w' R' r f => ?_⟩
  obtain ⟨b, rfl, p⟩ := w'
  exact ⟨b, rep_bl r, k b ρ' as' H' p R' f⟩
theorem dt_cmp {op : CmpOp} {g : WP2} {a b : Expr} {da db : DE} {pos : Pos} (ho : OpR X (compareOp op) (lift2 (gd X) g)) (ha : DEx X a da) (hb : DEx X b db) (hm : behindInMarks op b = false := by first | exact nomark _ | rfl) : DTx X (.Compare a [op] [b] pos) (dB (dOp g da db)) :=
  pt_con' (pt_cmpR ho ha hb hm) fun _ _ _ h => lift_test (fun _ _ _ q => lift_op q) h
theorem dt_val {e : Expr} {d : DE} (h : DEx X e d) (he : ∀ whole, isTrue e X.env whole = (do let v ← whole; standAt e.pos; holding [v] (truthy v)) := by intro _; rfl) : DTx X e (dB d) :=
  pt_con' (pt_val h he) fun σ H Q ⟨as, ρ, P, R, w, k⟩ => ⟨as, ρ, _, R, w, fun x ρ' as' v H' w' R' r f => by
    obtain ⟨b, rfl, p⟩ := w'
    exact ⟨b, rep_bl r, k b ρ' as' H' p R' f⟩⟩
/-- a < b < c -/
def dChain (g g' : WP2) (a b c : DE) : DE := fun ρ Q => a ρ fun x ρ1 => b ρ1 fun y ρ2 => g x y ρ2.st fun z => ∃ k, z = .bl k ∧ if k = true then c ρ2 fun w ρ3 => g' y w ρ3.st fun z' => Q z' ρ3 else Q (.bl false) ρ2
theorem lift_chain {G : Gd} {g g' : WP2} {da db dc : DE} {σ : L2.St} {H : Hp} {Q : VK} (h : liftE G (dChain g g' da db dc) σ H Q) : tChain (lift2 G g) (lift2 G g') (liftE G da) (liftE G db) (liftE G dc) σ H Q := by
  obtain ⟨as, ρ, P, R, w, k⟩ := h
  refine ⟨as, ρ, _, R, w, fun x ρ1 as1 v1 H1 w1 R1 r1 f1 => ?_⟩
  refine ⟨as1, ρ1, _, R1, w1, fun y ρ2 as2 v2 H2 w2 R2 r2 f2 => ?_⟩
  refine ⟨as2, ρ2.st, x, y, _, R2.st, r1.frm f2, r2, w2, fun z v H3 pz s r => ?_⟩
  obtain ⟨b, rfl, pz⟩ := pz
  refine ⟨b, rep_bl r, ?_⟩
  have f3 : Frm as H as2 H3 := (f1.trans f2).trans (.same s)
  cases b with
  | false =>
    rw [if_neg Bool.false_ne_true] at pz ⊢
    exact k _ ρ2 as2 _ H3 pz (R2.same s) (.bl _) f3
  | true =>
    rw [if_pos rfl] at pz ⊢
    refine ⟨as2, ρ2, _, R2.same s, pz, fun u ρ4 as4 v4 H4 w4 R4 r4 f4 => ?_⟩
    refine ⟨as4, ρ4.st, y, u, _, R4.st, r2.frm ((Frm.same s).trans f4), r4, w4, fun z' v' H5 pz' s' r' => ?_⟩
    exact k z' ρ4 as4 v' H5 pz' (R4.same s') r' ((f3.trans f4).trans (.same s'))
theorem de_chain {op op' : CmpOp} {g g' : WP2} {a b c : Expr} {da db dc : DE} {pos : Pos} (ho : OpR X (compareOp op) (lift2 (gd X) g)) (ho' : OpR X (compareOp op') (lift2 (gd X) g')) (ha : DEx X a da) (hb : DEx X b db) (hc : DEx X c dc)
    (hm : lastMarks [op, op'] [b, c] = false := by with_unfolding_all rfl) : DEx X (.Compare a [op, op'] [b, c] pos) (dChain g g' da db dc) :=
  pe_con' (pe_chain ho ho' ha hb hc hm) fun _ _ _ h => lift_chain h
theorem dt_chain {op op' : CmpOp} {g g' : WP2} {a b c : Expr} {da db dc : DE} {pos : Pos} (ho : OpR X (compareOp op) (lift2 (gd X) g)) (ho' : OpR X (compareOp op') (lift2 (gd X) g')) (ha : DEx X a da) (hb : DEx X b db) (hc : DEx X c dc)
    (hm : lastMarks [op, op'] [b, c] = false := by with_unfolding_all rfl) : DTx X (.Compare a [op, op'] [b, c] pos) (dB (dChain g g' da db dc)) :=
  pt_con' (pt_chain ho ho' ha hb hc hm) fun _ _ _ h => lift_test (fun _ _ _ q => lift_chain q) h

/-! ### is None, is True -/
def isNon : D → Bool
  | .non => true
  | _ => false
theorem isNon_rep {G : Gd} {H : Hp} {as : List Addr} {v : V} {d : D} (r : Rep G H as v d) : decide (v = .non) = isNon d := by cases r <;> simp [isNon]
def dIsN (a : DE) : DE := fun ρ Q => a ρ fun x ρ' => Q (.bl (isNon x)) ρ'
def dNotN (a : DE) : DE := fun ρ Q => a ρ fun x ρ' => Q (.bl (!isNon x)) ρ'
theorem lift_isN {G : Gd} {da : DE} {σ : L2.St} {H : Hp} {Q : VK} (h : liftE G (dIsN da) σ H Q) : tIsN (liftE G da) σ H Q := by
  obtain ⟨as, ρ, P, R, w, k⟩ := h
  refine ⟨as, ρ, _, R, w, fun x ρ1 as1 v1 H1 w1 R1 r1 f1 => ?_⟩
  show Q _ H1
  rw [isNon_rep r1]
  exact k _ ρ1 as1 _ H1 w1 R1 (.bl _) f1
theorem lift_notN {G : Gd} {da : DE} {σ : L2.St} {H : Hp} {Q : VK} (h : liftE G (dNotN da) σ H Q) : tNotN (liftE G da) σ H Q := by
  obtain ⟨as, ρ, P, R, w, k⟩ := h
  refine ⟨as, ρ, _, R, w, fun x ρ1 as1 v1 H1 w1 R1 r1 f1 => ?_⟩
  show Q _ H1
  rw [isNon_rep r1]
  exact k _ ρ1 as1 _ H1 w1 R1 (.bl _) f1
section
variable {a : Expr} {da : DE} {pos pos' : Pos} {j : Nat}
theorem de_isN (ha : DEx X a da) : DEx X (.Compare a [.Is] [.Constant .none j pos'] pos) (dIsN da) := pe_con' (pe_cmp (pc_isN ha) rfl) fun _ _ _ h => lift_isN h
theorem de_notN (ha : DEx X a da) : DEx X (.Compare a [.IsNot] [.Constant .none j pos'] pos) (dNotN da) := pe_con' (pe_cmp (pc_notN ha) rfl) fun _ _ _ h => lift_notN h
theorem dt_isN (ha : DEx X a da) : DTx X (.Compare a [.Is] [.Constant .none j pos'] pos) (dB (dIsN da)) := pt_con' (pt_cmp (pc_isN ha) rfl) fun _ _ _ h => lift_test (fun _ _ _ q => lift_isN q) h
theorem dt_notN (ha : DEx X a da) : DTx X (.Compare a [.IsNot] [.Constant .none j pos'] pos) (dB (dNotN da)) := pt_con' (pt_cmp (pc_notN ha) rfl) fun _ _ _ h => lift_test (fun _ _ _ q => lift_notN q) h
end
/-- is of two bools -/
def wIsB : WP2 := fun x y _ Q => ∃ a b, x = .bl a ∧ y = .bl b ∧ Q (.bl (decide (a = b)))
def wNotB : WP2 := fun x y _ Q => ∃ a b, x = .bl a ∧ y = .bl b ∧ Q (.bl (!decide (a = b)))
theorem ro_isB : OpR X (compareOp .Is) (lift2 (gd X) wIsB) := opR_con op_isBl fun x y H Q ⟨as, st, dx, dy, P, R, rx, ry, ⟨a, b, ex, ey, p⟩, k⟩ => by
  subst ex; subst ey
  exact ⟨a, b, rep_bl rx, rep_bl ry, k _ _ H p (Same.refl H) (.bl _)⟩
theorem ro_notB : OpR X (compareOp .IsNot) (lift2 (gd X) wNotB) := opR_con op_notBl fun x y H Q ⟨as, st, dx, dy, P, R, rx, ry, ⟨a, b, ex, ey, p⟩, k⟩ => by
  subst ex; subst ey
  exact ⟨a, b, rep_bl rx, rep_bl ry, k _ _ H p (Same.refl H) (.bl _)⟩

/-! ### and, or, not; a if t else b -/
def dNot (t : DT) : DT := fun ρ Q => t ρ fun b ρ' => Q (!b) ρ'
def dAnd (t u : DT) : DT := fun ρ Q => t ρ fun b ρ' => if b = true then u ρ' Q else Q false ρ'
def dOr (t u : DT) : DT := fun ρ Q => t ρ fun b ρ' => if b = true then Q true ρ' else u ρ' Q
def dNotV (a : DE) : DE := fun ρ Q => a ρ fun x ρ' => ∃ b, x = .bl b ∧ Q (.bl (!b)) ρ'
def dAndV (a b : DE) : DE := fun ρ Q => a ρ fun x ρ' => ∃ c, x = .bl c ∧ if c = true then b ρ' Q else Q (.bl false) ρ'
def dOrV (a b : DE) : DE := fun ρ Q => a ρ fun x ρ' => ∃ c, x = .bl c ∧ if c = true then Q (.bl true) ρ' else b ρ' Q
def dIf (t : DT) (a b : DE) : DE := fun ρ Q => t ρ fun c ρ' => if c = true then a ρ' Q else b ρ' Q
section
variable {a b c : Expr} {rest : List Expr} {da db : DE} {ta tb tc : DT} {pos : Pos}
theorem dt_not (h : DTx X a ta) : DTx X (.UnaryOp .Not a pos) (dNot ta) := pt_con' (pt_not h) fun σ H Q ⟨as, ρ, P, R, w, k⟩ =>
  ⟨as, ρ, _, R, w, fun b ρ' as' H' w' R' f => k _ ρ' as' H' w' R' f⟩
theorem DWx.pt {e : Expr} {t : DT} (h : DWx X e t) : DTx X e t := PW.pt h
theorem dw_and1 (h : DTx X a ta) : DWx X (.BoolOp .And [a] pos) ta := pw_and1 h
theorem dw_or1 (h : DTx X a ta) : DWx X (.BoolOp .Or [a] pos) ta := pw_or1 h
theorem dw_and (ha : DTx X a ta) (hb : DWx X (.BoolOp .And (b :: rest) pos) tb) : DWx X (.BoolOp .And (a :: b :: rest) pos) (dAnd ta tb) := pw_con' (pw_and ha hb) fun σ H Q ⟨as, ρ, P, R, w, k⟩ =>
  ⟨as, ρ, _, R, w, fun c ρ' as' H' w' R' f => by
    cases c with
    | false => rw [if_neg Bool.false_ne_true] at w' ⊢; exact k _ ρ' as' H' w' R' f
    | true =>
      rw [if_pos rfl] at w' ⊢
      exact ⟨as', ρ', P, R', w', fun c2 ρ2 as2 H2 w2 R2 f2 => k _ ρ2 as2 H2 w2 R2 (f.trans f2)⟩⟩
theorem dw_or (ha : DTx X a ta) (hb : DWx X (.BoolOp .Or (b :: rest) pos) tb) : DWx X (.BoolOp .Or (a :: b :: rest) pos) (dOr ta tb) := pw_con' (pw_or ha hb) fun σ H Q ⟨as, ρ, P, R, w, k⟩ =>
  ⟨as, ρ, _, R, w, fun c ρ' as' H' w' R' f => by
    cases c with
    | true => rw [if_pos rfl] at w' ⊢; exact k _ ρ' as' H' w' R' f
    | false =>
      rw [if_neg Bool.false_ne_true] at w' ⊢
      exact ⟨as', ρ', P, R', w', fun c2 ρ2 as2 H2 w2 R2 f2 => k _ ρ2 as2 H2 w2 R2 (f.trans f2)⟩⟩
theorem de_notV (h : DEx X a da) : DEx X (.UnaryOp .Not a pos) (dNotV da) := pe_con' (pe_not h) fun σ H Q ⟨as, ρ, P, R, w, k⟩ =>
  ⟨as, ρ, _, R, w, fun x ρ' as' v H' w' R' r f => by
    obtain ⟨b, rfl, p⟩ := w'
    exact ⟨b, rep_bl r, k _ ρ' as' _ H' p R' (.bl _) f⟩⟩
theorem de_one {op} (h : DEx X a da) : DEx X (.BoolOp op [a] pos) da := pe_one h
theorem de_and (ha : DEx X a da) (hb : DEx X (.BoolOp .And (b :: rest) pos) db) : DEx X (.BoolOp .And (a :: b :: rest) pos) (dAndV da db) := pe_con' (pe_and ha hb) fun σ H Q ⟨as, ρ, P, R, w, k⟩ =>
  ⟨as, ρ, _, R, w, fun x ρ' as' v H' w' R' r f => by
    obtain ⟨c, rfl, w'⟩ := w'
    refine ⟨c, rep_bl r, ?_⟩
    cases c with
    | false => rw [if_neg Bool.false_ne_true] at w' ⊢; exact k _ ρ' as' _ H' w' R' (.bl _) f
    | true =>
      rw [if_pos rfl] at w' ⊢
      exact ⟨as', ρ', P, R', w', fun c2 ρ2 as2 v2 H2 w2 R2 r2 f2 => k _ ρ2 as2 v2 H2 w2 R2 r2 (f.trans f2)⟩⟩
theorem de_or (ha : DEx X a da) (hb : DEx X (.BoolOp .Or (b :: rest) pos) db) : DEx X (.BoolOp .Or (a :: b :: rest) pos) (dOrV da db) := pe_con' (pe_or ha hb) fun σ H Q ⟨as, ρ, P, R, w, k⟩ =>
  ⟨as, ρ, _, R, w, fun x ρ' as' v H' w' R' r f => by
    obtain ⟨c, rfl, w'⟩ := w'
    refine ⟨c, rep_bl r, ?_⟩
    cases c with
    | true => rw [if_pos rfl] at w' ⊢; exact k _ ρ' as' _ H' w' R' (.bl _) f
    | false =>
      rw [if_neg Bool.false_ne_true] at w' ⊢
      exact ⟨as', ρ', P, R', w', fun c2 ρ2 as2 v2 H2 w2 R2 r2 f2 => k _ ρ2 as2 v2 H2 w2 R2 r2 (f.trans f2)⟩⟩
theorem de_ifExp (hc : DTx X c tc) (ha : DEx X a da) (hb : DEx X b db) : DEx X (.IfExp c a b pos) (dIf tc da db) := pe_con' (pe_ifExp hc ha hb) fun σ H Q ⟨as, ρ, P, R, w, k⟩ =>
  ⟨as, ρ, _, R, w, fun c ρ' as' H' w' R' f => by
    cases c with
    | true =>
      rw [if_pos rfl] at w' ⊢
      exact ⟨as', ρ', P, R', w', fun c2 ρ2 as2 v2 H2 w2 R2 r2 f2 => k _ ρ2 as2 v2 H2 w2 R2 r2 (f.trans f2)⟩
    | false =>
      rw [if_neg Bool.false_ne_true] at w' ⊢
      exact ⟨as', ρ', P, R', w', fun c2 ρ2 as2 v2 H2 w2 R2 r2 f2 => k _ ρ2 as2 v2 H2 w2 R2 r2 (f.trans f2)⟩⟩
end

/-! ### arguments, displays -/
def dNil : DA := fun ρ Q => Q [] ρ
def dCons (a : DE) (r : DA) : DA := fun ρ Q => a ρ fun x ρ1 => r ρ1 fun xs ρ2 => Q (x :: xs) ρ2
def dTup (a : DA) : DE := fun ρ Q => a ρ fun xs ρ1 => xs.length ≤ sizeLine ∧ Q (.tup xs) ρ1
def dLst (a : DA) : DE := fun ρ Q => a ρ fun xs ρ1 => xs.length ≤ sizeLine ∧ Q (.lst xs) ρ1
/-- a list that is a new cell -/
def dNewL (a : DA) : DE := fun ρ Q => a ρ fun xs ρ1 => xs.length ≤ sizeLine ∧ Q (.ptr ρ1.st.length) ⟨ρ1.sl, ρ1.st ++ [.lst xs]⟩
section
variable {e : Expr} {es : List Expr} {d : DE} {da : DA} {pos : Pos}
theorem da_nil : DAx X [] dNil := pa_con' pa_nil fun σ H Q ⟨as, ρ, P, R, w, k⟩ => k [] ρ as [] H w R .nil (.refl _ _)
theorem da_cons (he : DEx X e d) (hr : DAx X es da) (hs : starEach (e :: es) X.env = (false, eval e X.env) :: starEach es X.env := by rfl) : DAx X (e :: es) (dCons d da) := pa_con' (pa_cons he hr hs) fun σ H Q ⟨as, ρ, P, R, w, k⟩ =>
  ⟨as, ρ, _, R, w, fun x ρ1 as1 v H1 w1 R1 r1 f1 => ⟨as1, ρ1, _, R1, w1, fun xs ρ2 as2 vs H2 w2 R2 r2 f2 => k _ ρ2 as2 _ H2 w2 R2 (.cons (r1.frm f2) r2) (f1.trans f2)⟩⟩
theorem de_tup {x1} (h : DAx X es da) : DEx X (.Tuple es x1 pos) (dTup da) := pe_con' (pe_tup h) fun σ H Q ⟨as, ρ, P, R, w, k⟩ =>
  ⟨as, ρ, _, R, w, fun xs ρ1 as1 vs H1 w1 R1 r1 f1 => ⟨by rw [r1.length]; exact w1.1, fun p hp => by
    have s : Same H1 (upd H1 p (.tup vs)) := Same.upd hp
    exact k _ ρ1 as1 _ _ w1.2 (R1.same s) (.tup (SqT.of upd_same) (r1.frm (.same s))) (f1.trans (.same s))⟩⟩
theorem de_lst (h : DAx X es da) : DEx X (.List es pos) (dLst da) := pe_con' (pe_frz (pe_lst h)) fun σ H Q ⟨as, ρ, P, R, w, k⟩ =>
  ⟨as, ρ, _, R, w, fun xs ρ1 as1 vs H1 w1 R1 r1 f1 => ⟨by rw [r1.length]; exact w1.1, fun p hp => frzQ_new (P := fun z => z = .lst xs) p hp r1 rfl fun z v H2 e s r => by
    subst e
    exact k _ ρ1 as1 _ _ w1.2 (R1.same s) r (f1.trans (.same s))⟩⟩
theorem de_newL (h : DAx X es da) : DEx X (.List es pos) (dNewL da) := pe_con' (pe_lst h) fun σ H Q ⟨as, ρ, P, R, w, k⟩ =>
  ⟨as, ρ, _, R, w, fun xs ρ1 as1 vs H1 w1 R1 r1 f1 => ⟨by rw [r1.length]; exact w1.1, fun p hp => by
    have hl : (as1 ++ [p])[ρ1.st.length]? = some p := by rw [← R1.st.len, List.getElem?_append_right (Nat.le_refl _)]; simp
    exact k _ _ (as1 ++ [p]) _ _ w1.2 (R1.alloc (c := .lst xs) hp ⟨vs, upd_same, r1.frm (.alloc as1 hp)⟩) (.ptr hl) (f1.trans (.alloc as1 hp))⟩⟩
end

/-! ### calls -/
/-- a def's promise over data: arguments, the store; the answer and the store behind -/
abbrev FS := List D → List Cell → (D → List Cell → Prop) → Prop
def spD (G : Gd) (n : Nat) (F : FS) : Sp := fun vs H Q _ => ∃ as st ds P, ds.length = n ∧ RepSt G H as st ∧ RepAll G H as vs ds ∧ F ds st P ∧ ∀ z st' as' v H', P z st' → RepSt G H' as' st' → Rep G H' as' v z → Frm as H as' H' → Q v H'
/-- a def of the module stands ready -/
structure Has (P : Program) (w : World) (K : PySem.W.Frag) (mg : Str → Option Value) (base : Heap) (x : Str) (k n : Nat) (F : FS) : Prop where
  ex : ∃ (f : Addr) (fd : FuncData) (ps : List Str), ps.length = n ∧ FnOk P w K mg base CX0 k f fd ps (spD ⟨P, w, K⟩ n F) ∧ mg x = some (.ref f) ∧ PySem.W.keepIn K (.ref f) = true ∧ Binds K fd ps []
def dCall (n : Nat) (F : FS) (a : DA) : DE := fun ρ Q => a ρ fun ds ρ1 => ds.length = n ∧ F ds ρ1.st fun z st => Q z ⟨ρ1.sl, st⟩
theorem RepS.store {G : Gd} {H H' : Hp} {as as' : List Addr} {σ : L2.St} {ρ : DS} {st : List Cell} (R : RepS G H as σ ρ) (f : Frm as H as' H') (r : RepSt G H' as' st) : RepS G H' as' σ ⟨ρ.sl, st⟩ :=
  ⟨R.len, fun i d h => by
    obtain ⟨v, e, q⟩ := R.slot i d h
    exact ⟨v, e, q.frm f⟩, r⟩
theorem lift_call {G : Gd} {n : Nat} {F : FS} {da : DA} {σ : L2.St} {H : Hp} {Q : VK} (h : liftE G (dCall n F da) σ H Q) : tCall (spD G n F) [] E0 (liftA G da) σ H Q := by
  obtain ⟨as, ρ, P, R, w, k⟩ := h
  refine ⟨as, ρ, _, R, w, fun ds ρ1 as1 vs H1 w1 R1 r1 f1 => ?_⟩
  refine ⟨as1, ρ1.st, ds, _, w1.1, R1.st, by rw [List.append_nil]; exact r1, w1.2, fun z st' as' v H' pz R' r f => ?_⟩
  exact k z _ as' v H' pz (R1.store f R') r (f1.trans f)
theorem de_call {x : Str} {p pos : Pos} {e : Expr} {es : List Expr} {da : DA} {k n : Nat} {F : FS} (h : Has X.prog X.w X.K X.mg X.base x k n F) (hr : Room k X.A) (hg : Gl X x) (ha : DAx X (e :: es) da)
    (hdb : (x == ("__debug__" : Str)) = false := by decide) (he : starEach (e :: es) X.env = (false, eval e X.env) :: starEach es X.env := by rfl) (hpl : (backTo pos (starEach es X.env)).any (·.1) = false := by rfl) :
    DEx X (.Call (.Name x p) (e :: es) [] pos) (dCall n F da) := by
  obtain ⟨f, fd, ps, hl, hF, hm, hk, hb⟩ := h.ex
  exact pe_con' (pe_call hF hr hg hm hk hb .nil pass0 ha hdb he hpl) fun _ _ _ q => lift_call q

/-! ### built-ins by values -/
def dBt (g : WPn) (a : DA) : DE := fun ρ Q => a ρ fun ds ρ1 => g ds ρ1.st fun z => Q z ρ1
theorem lift_bt {G : Gd} {g : WPn} {da : DA} {σ : L2.St} {H : Hp} {Q : VK} (h : liftE G (dBt g da) σ H Q) : tCB (liftN G g) (liftA G da) σ H Q := by
  obtain ⟨as, ρ, P, R, w, k⟩ := h
  refine ⟨as, ρ, _, R, w, fun ds ρ1 as1 vs H1 w1 R1 r1 f1 => ?_⟩
  exact ⟨as1, ρ1.st, ds, _, R1.st, r1, w1, fun z v H' pz s r => k z ρ1 as1 v H' pz (R1.same s) r (f1.trans (.same s))⟩
section
variable {x : Str} {p pos : Pos} {e : Expr} {es : List Expr} {da : DA} {id T : String} {g : WPn}
theorem de_bt (hc : CallR X (.builtin id) (liftN (gd X) g)) (hg : Gl X x) (hm : X.mg x = none) (hv : bootBuiltins x = some (.builtin id)) (ha : DAx X (e :: es) da) (hn : x ≠ "__name__" := by decide) (hdb : (x == ("__debug__" : Str)) = false := by decide)
    (he : starEach (e :: es) X.env = (false, eval e X.env) :: starEach es X.env := by rfl) (hpl : (backTo pos (starEach es X.env)).any (·.1) = false := by rfl) : DEx X (.Call (.Name x p) (e :: es) [] pos) (dBt g da) :=
  pe_con' (pe_callB hc hg hm hv ha hn hdb he hpl) fun _ _ _ q => lift_bt q
theorem de_ty (hc : CallR X (.type T) (liftN (gd X) g)) (hg : Gl X x) (hm : X.mg x = none) (hv : bootBuiltins x = some (.type T)) (ha : DAx X (e :: es) da) (hn : x ≠ "__name__" := by decide) (hdb : (x == ("__debug__" : Str)) = false := by decide)
    (he : starEach (e :: es) X.env = (false, eval e X.env) :: starEach es X.env := by rfl) (hpl : (backTo pos (starEach es X.env)).any (·.1) = false := by rfl) : DEx X (.Call (.Name x p) (e :: es) [] pos) (dBt g da) :=
  pe_con' (pe_callTy hc hg hm hv ha hn hdb he hpl) fun _ _ _ q => lift_bt q
end
end
end BB
set_option maxRecDepth 100000
/-! The data layer, 3: operations by values. -/
namespace BB
open PySem PySem.Spec PyProof.Rows L2

mutual
/-- as the library's data (dicts, cells: none) -/
def py : D → PyData
  | .non => .none
  | .bl b => .bool b
  | .int i => .int i
  | .str x => .str x
  | .tup ds => .tuple (pys ds)
  | .lst ds => .list (pys ds)
  | .dct _ _ => .dict []
  | .dcs _ _ => .dict []
  | .ptr _ => .dict []
def pys : List D → List PyData
  | [] => []
  | d :: ds => py d :: pys ds
end
theorem pys_map : ∀ ds : List D, pys ds = ds.map py
  | [] => rfl
  | d :: ds => by rw [pys, pys_map ds]; rfl
/-- a cell that holds a list, as that list -/
def vw (st : List Cell) (d : D) : D := match d with
  | .ptr j => (match st[j]? with
    | some (.lst ds) => .lst ds
    | _ => .ptr j)
  | d => d
/-- plain data of such a depth -/
def sh (n : Nat) (d : D) : Prop := (py d).canLay0 = true ∧ (py d).depth ≤ n
def deq (x y : D) : Bool := PyData.eqv (py x) (py y)
def dlt (x y : D) : Bool := PySem.W.dataLt (py x) (py y)
def dalike (x y : D) : Bool := PySem.W.alike (py x) (py y)

theorem canLayAll_iff : ∀ xs : List PyData, PyData.canLayAll0 xs = true ↔ ∀ x ∈ xs, x.canLay0 = true
  | [] => by simp [PyData.canLayAll0]
  | x :: xs => by simp [PyData.canLayAll0, canLayAll_iff xs]
theorem depthAll_iff (n : Nat) : ∀ xs : List PyData, PyData.depthAll xs ≤ n ↔ ∀ x ∈ xs, x.depth ≤ n
  | [] => by simp [PyData.depthAll]
  | x :: xs => by
    simp only [PyData.depthAll, List.mem_cons, forall_eq_or_imp, ← depthAll_iff n xs]
    omega
theorem sh_non (n : Nat) : sh n .non := ⟨by simp [py, PyData.canLay0], by simp [py, PyData.depth]⟩
theorem sh_bl (n : Nat) (b : Bool) : sh n (.bl b) := ⟨by simp [py, PyData.canLay0], by simp [py, PyData.depth]⟩
theorem sh_int (n : Nat) (i : Int) : sh n (.int i) := ⟨by simp [py, PyData.canLay0], by simp [py, PyData.depth]⟩
theorem sh_str (n : Nat) (x : Str) : sh n (.str x) ↔ PyData.canLay0 (.str x) = true := ⟨fun h => h.1, fun h => ⟨h, by simp [py, PyData.depth]⟩⟩
theorem sh_tup (n : Nat) (ds : List D) : sh (n + 1) (.tup ds) ↔ ∀ d ∈ ds, sh n d := by
  unfold sh
  simp only [py, PyData.canLay0, PyData.depth, pys_map, canLayAll_iff]
  rw [show ∀ a b : Nat, (a + 1 ≤ b + 1) = (a ≤ b) from fun a b => propext (by omega), depthAll_iff]
  simp only [List.mem_map, forall_exists_index, and_imp, forall_apply_eq_imp_iff₂]
  exact ⟨fun h d hd => ⟨h.1 d hd, h.2 d hd⟩, fun h => ⟨fun d hd => (h d hd).1, fun d hd => (h d hd).2⟩⟩
theorem sh_lst (n : Nat) (ds : List D) : sh (n + 1) (.lst ds) ↔ ∀ d ∈ ds, sh n d := by
  unfold sh
  simp only [py, PyData.canLay0, PyData.depth, pys_map, canLayAll_iff]
  rw [show ∀ a b : Nat, (a + 1 ≤ b + 1) = (a ≤ b) from fun a b => propext (by omega), depthAll_iff]
  simp only [List.mem_map, forall_exists_index, and_imp, forall_apply_eq_imp_iff₂]
  exact ⟨fun h d hd => ⟨h.1 d hd, h.2 d hd⟩, fun h => ⟨fun d hd => (h d hd).1, fun d hd => (h d hd).2⟩⟩
theorem sh_mono {n m : Nat} {d : D} (h : sh n d) (hn : n ≤ m) : sh m d := ⟨h.1, Nat.le_trans h.2 hn⟩
theorem sh.shaped {n : Nat} {d : D} (h : sh n d) (hn : n ≤ 64) : SeqAt.shaped (py d) = true := by
  unfold SeqAt.shaped
  rw [Bool.and_eq_true, decide_eq_true_eq]
  exact ⟨h.1, Nat.le_trans h.2 hn⟩

section
variable {G : Gd} {H : Hp} {as : List Addr} {st : List Cell}
mutual
theorem Rep.dp : ∀ {v : V} {d : D}, Rep G H as v d → (py d).canLay0 = true → Dp G.K H v (py d)
  | _, _, .non, _ => .non
  | _, _, .bl b, _ => .bl b
  | _, _, .int i, _ => .int i
  | _, _, .str x, _ => .str x
  | _, .tup ds, .tup h r, q => by rw [py]; exact .tup h (RepAll.dp r (by simpa [py, PyData.canLay0] using q))
  | _, .lst ds, .lst h r, q => by rw [py]; exact .lst h.sq (RepAll.dp r (by simpa [py, PyData.canLay0] using q))
  | _, _, .dct _ _ _ _, q => by simp [py, PyData.canLay0] at q
  | _, _, .dcs _ _, q => by simp [py, PyData.canLay0] at q
  | _, _, .ptr _, q => by simp [py, PyData.canLay0] at q
theorem RepAll.dp : ∀ {v : List V} {d : List D}, RepAll G H as v d → PyData.canLayAll0 (pys d) = true → DpAll G.K H v (pys d)
  | _, _, .nil, _ => .nil
  | _, _, .cons h r, q => by
    rw [pys, PyData.canLayAll0, Bool.and_eq_true] at q
    exact .cons (Rep.dp h q.1) (RepAll.dp r q.2)
end
/-- what may be read as a list: a frozen one, a cell -/
theorem rep_listR (R : RepSt G H as st) {v : V} {d : D} {ds : List D} (r : Rep G H as v d) (e : vw st d = .lst ds) : ∃ a xs, v = .ref a ∧ Rd H a (.lst xs) ∧ RepAll G H as xs ds := by
  cases r with
  | lst h r => injection e with e; subst e; obtain ⟨o, h⟩ := h; exact ⟨_, _, rfl, .inr ⟨o, h⟩, r⟩
  | ptr h =>
    rename_i a j
    simp only [vw] at e
    cases q : st[j]? with
    | none => rw [q] at e; cases e
    | some c =>
      rw [q] at e
      cases c with
      | lst es =>
        injection e with e; subst e
        obtain ⟨xs, e1, e2⟩ := R.ok j _ a q h
        exact ⟨a, xs, rfl, .inl e1, e2⟩
      | dct _ _ => cases e
      | dcs _ _ => cases e
      | dead => cases e
  | _ => cases e
theorem rep_list (R : RepSt G H as st) {v : V} {d : D} {ds : List D} (r : Rep G H as v d) (e : vw st d = .lst ds) : ∃ a xs, v = .ref a ∧ SqL G.K H a xs ∧ RepAll G H as xs ds := by
  obtain ⟨a, xs, h1, h2, h3⟩ := rep_listR R r e
  exact ⟨a, xs, h1, .inl h2, h3⟩
theorem rep_tup {v : V} {ds : List D} (r : Rep G H as v (.tup ds)) : ∃ a xs, v = .ref a ∧ SqT G.K H a xs ∧ RepAll G H as xs ds := by
  cases r with
  | tup h r => exact ⟨_, _, rfl, h, r⟩
theorem rep_dp (R : RepSt G H as st) {v : V} {d : D} (r : Rep G H as v d) (q : (py (vw st d)).canLay0 = true) : Dp G.K H v (py (vw st d)) := by
  cases hd : d with
  | ptr j =>
    subst hd
    cases hv : vw st (.ptr j) with
    | lst ds =>
      obtain ⟨a, xs, rfl, h, rr⟩ := rep_list R r hv
      rw [hv] at q
      rw [py]
      exact .lst h (RepAll.dp rr (by simpa [py, PyData.canLay0] using q))
    | ptr _ => rw [hv] at q; simp [py, PyData.canLay0] at q
    | _ =>
      simp only [vw] at hv
      split at hv <;> cases hv
  | _ => subst hd; exact r.dp q
end

section
variable {X : Cx}
/-! ### == and != -/
def wEq : WP2 := fun x y st Q => sh 64 (vw st x) ∧ sh 64 (vw st y) ∧ Q (.bl (deq (vw st x) (vw st y)))
def wNe : WP2 := fun x y st Q => sh 64 (vw st x) ∧ sh 64 (vw st y) ∧ Q (.bl (!deq (vw st x) (vw st y)))
theorem ro_eq (hu : X.A.units + 64 < cLine) : OpR X (compareOp .Eq) (lift2 (gd X) wEq) := opR_con (op_eqD hu) fun x y H Q ⟨as, st, dx, dy, P, R, rx, ry, ⟨hx, hy, p⟩, k⟩ =>
  ⟨_, _, rep_dp R rx hx.1, rep_dp R ry hy.1, hx.shaped (Nat.le_refl _), hy.shaped (Nat.le_refl _), k _ _ H p (Same.refl H) (.bl _)⟩
theorem ro_ne (hu : X.A.units + 64 < cLine) : OpR X (compareOp .NotEq) (lift2 (gd X) wNe) := opR_con (op_neD hu) fun x y H Q ⟨as, st, dx, dy, P, R, rx, ry, ⟨hx, hy, p⟩, k⟩ =>
  ⟨_, _, rep_dp R rx hx.1, rep_dp R ry hy.1, hx.shaped (Nat.le_refl _), hy.shaped (Nat.le_refl _), k _ _ H p (Same.refl H) (.bl _)⟩
/-! ### order -/
/-- two ints -/
def wI2 (f : Int → Int → Bool) : WP2 := fun x y _ Q => ∃ i j, x = .int i ∧ y = .int j ∧ Q (.bl (f i j))
theorem ro_i2 {op : CmpOp} {f : Int → Int → Bool} (h : OpR X (compareOp op) (rI0 fun i j => .bl (f i j))) : OpR X (compareOp op) (lift2 (gd X) (wI2 f)) := opR_con h fun x y H Q ⟨as, st, dx, dy, P, R, rx, ry, ⟨i, j, ex, ey, p⟩, k⟩ => by
  subst ex; subst ey
  exact ⟨i, j, rep_int rx, rep_int ry, k _ _ H p (Same.refl H) (.bl _)⟩
theorem ro_lt : OpR X (compareOp .Lt) (lift2 (gd X) (wI2 fun i j => decide (i < j))) := ro_i2 op_lt
theorem ro_le : OpR X (compareOp .LtE) (lift2 (gd X) (wI2 fun i j => decide (i ≤ j))) := ro_i2 op_le
theorem ro_gt : OpR X (compareOp .Gt) (lift2 (gd X) (wI2 fun i j => decide (j < i))) := ro_i2 op_gt
theorem ro_ge : OpR X (compareOp .GtE) (lift2 (gd X) (wI2 fun i j => decide (j ≤ i))) := ro_i2 op_ge
/-- alike data -/
def wLtD : WP2 := fun x y st Q => sh 64 (vw st x) ∧ sh 64 (vw st y) ∧ dalike (vw st x) (vw st y) = true ∧ vw st x ≠ .non ∧ Q (.bl (dlt (vw st x) (vw st y)))
theorem ro_ltD (hu : X.A.units + 64 < cLine) : OpR X (compareOp .Lt) (lift2 (gd X) wLtD) := by
  intro pins s σ H x y v u Q I rx ry h
  obtain ⟨as, st, dx, dy, P, R, qx, qy, ⟨hx, hy, al, hn, p⟩, k⟩ := h
  obtain ⟨as', r1⟩ := Dp.reads I _ x v (rep_dp R qx hx.1) rx
  obtain ⟨bs', r2⟩ := Dp.reads I _ y u (rep_dp R qy hy.1) ry
  refine PySem.W.lt_data r1 r2 al (fun e => hn ?_) (by have := hx.2; omega) ⟨.bl _, H, I, rfl, k _ _ H p (Same.refl H) (.bl _)⟩
  cases hd : vw st dx <;> rw [hd] at e <;> simp [py] at e ⊢

/-! ### in -/
def wInL : WP2 := fun x y st Q => ∃ ds, vw st y = .lst ds ∧ sh 64 (vw st x) ∧ sh 64 (.lst ds) ∧ Q (.bl (ds.any fun z => deq z (vw st x)))
def wNotInL : WP2 := fun x y st Q => ∃ ds, vw st y = .lst ds ∧ sh 64 (vw st x) ∧ sh 64 (.lst ds) ∧ Q (.bl (!ds.any fun z => deq z (vw st x)))
theorem any_py (ds : List D) (x : D) : ((pys ds).any fun z => PyData.eqv z (py x)) = ds.any fun z => deq z x := by
  rw [pys_map, List.any_map]; rfl
theorem ro_inL (hu : X.A.units + 65 < cLine) : OpR X (compareOp .In) (lift2 (gd X) wInL) := opR_con (op_inD hu) fun x y H Q ⟨as, st, dx, dy, P, R, rx, ry, ⟨ds, e, hx, hy, p⟩, k⟩ => by
  have q := rep_dp R ry (by rw [e]; exact hy.1)
  rw [e, py] at q
  refine ⟨_, _, rep_dp R rx hx.1, q, hx.shaped (Nat.le_refl _), ?_, ?_⟩
  · have := hy.shaped (Nat.le_refl _); rw [py] at this; exact this
  · rw [any_py]; exact k _ _ H p (Same.refl H) (.bl _)
theorem ro_notInL (hu : X.A.units + 65 < cLine) : OpR X (compareOp .NotIn) (lift2 (gd X) wNotInL) := opR_con (op_notInD hu) fun x y H Q ⟨as, st, dx, dy, P, R, rx, ry, ⟨ds, e, hx, hy, p⟩, k⟩ => by
  have q := rep_dp R ry (by rw [e]; exact hy.1)
  rw [e, py] at q
  refine ⟨_, _, rep_dp R rx hx.1, q, hx.shaped (Nat.le_refl _), ?_, ?_⟩
  · have := hy.shaped (Nat.le_refl _); rw [py] at this; exact this
  · rw [any_py]; exact k _ _ H p (Same.refl H) (.bl _)

/-! ### arithmetic, joining -/
def wArI (C : Int → Int → Prop) (f : Int → Int → Int) : WP2 := fun x y _ Q => ∃ i j, x = .int i ∧ y = .int j ∧ C i j ∧ Q (.int (f i j))
theorem ro_arI {op : Operator} {C : Int → Int → Prop} {f : Int → Int → Int} (h : OpR X (binaryOp op) (rI C fun i j => .int (f i j))) : OpR X (binaryOp op) (lift2 (gd X) (wArI C f)) := opR_con h fun x y H Q ⟨as, st, dx, dy, P, R, rx, ry, ⟨i, j, ex, ey, c, p⟩, k⟩ => by
  subst ex; subst ey
  exact ⟨i, j, rep_int rx, rep_int ry, c, k _ _ H p (Same.refl H) (.int _)⟩
theorem ro_sub : OpR X (binaryOp .Sub) (lift2 (gd X) (wArI (fun _ _ => True) fun i j => i - j)) := ro_arI (opR_con op_sub fun x y H Q ⟨i, j, a, b, _, q⟩ => ⟨i, j, a, b, q⟩)
theorem ro_mul : OpR X (binaryOp .Mult) (lift2 (gd X) (wArI CMul fun i j => i * j)) := ro_arI op_mul
theorem ro_mod : OpR X (binaryOp .Mod) (lift2 (gd X) (wArI (fun _ j => 0 < j) fun i j => i % j)) := ro_arI op_mod
theorem ro_fdiv : OpR X (binaryOp .FloorDiv) (lift2 (gd X) (wArI CDiv fun i j => i / j)) := ro_arI op_fdiv
theorem ro_pow : OpR X (binaryOp .Pow) (lift2 (gd X) (wArI CPow fun i j => i ^ j.toNat)) := ro_arI op_pow
/-- a readable list's object -/
theorem Inv_rdL {pins : List (Addr × Obj)} {σ : L2.St} {H : Hp} {s : Shared} (I : L2.Inv X pins σ H s) {a : Addr} {xs : List V} (h : Rd H a (.lst xs)) :
    xs.length ≤ sizeLine ∧ ∃ (its : List Value) (n : Nat), Vals xs its ∧ xs.length = its.length ∧ s.heap.get? a = some { cls := .type "list", data := .seq its.toArray n } := by
  obtain ⟨z, its, n, r, e⟩ := h.ok I.hok
  exact ⟨z, its, n, r, r.length, e⟩
/-- list + list, what may be read as lists -/
def rCatL : R2 := fun x y H Q => ∃ l b xs zs, x = .ref l ∧ y = .ref b ∧ Rd H l (.lst xs) ∧ Rd H b (.lst zs) ∧ xs.length + zs.length ≤ sizeLine ∧ ∀ p, H p = none → Q (.ref p) (upd H p (.lst (xs ++ zs)))
theorem op_catL : OpR X (binaryOp .Add) rCatL := by
  intro pins s σ H x y v u Q I rx ry h
  obtain ⟨l, b, xs, zs, rfl, rfl, hH, hB, hz, q⟩ := h
  cases rx
  cases ry
  obtain ⟨z, its, n, r, hl, e⟩ := Inv_rdL I hH
  obtain ⟨z2, its2, n2, r2, hl2, e2⟩ := Inv_rdL I hB
  refine PySem.P.add_list e e2 ?_ (by rw [List.size_toArray, List.size_toArray]; omega)
  have ea : its.toArray ++ its2.toArray = (its ++ its2).toArray := by simp
  rw [ea]
  exact ⟨.ref _, _, I.lnew (t' := s.toks) (r.append r2) (by rw [List.length_append]; omega), rfl, q _ I.fresh⟩
/-- x + y: ints, tuples, lists -/
def wAdd : WP2 := fun x y st Q => match vw st x, vw st y with
  | .int i, .int j => Q (.int (i + j))
  | .tup a, .tup b => a.length + b.length ≤ sizeLine ∧ Q (.tup (a ++ b))
  | .lst a, .lst b => a.length + b.length ≤ sizeLine ∧ Q (.lst (a ++ b))
  | _, _ => False
theorem vw_int {st : List Cell} {d : D} {i : Int} (h : vw st d = .int i) : d = .int i := by
  cases d with
  | ptr j => simp only [vw] at h; split at h <;> cases h
  | _ => exact h
theorem vw_tup {st : List Cell} {d : D} {i : List D} (h : vw st d = .tup i) : d = .tup i := by
  cases d with
  | ptr j => simp only [vw] at h; split at h <;> cases h
  | _ => exact h
theorem ro_add : OpR X (binaryOp .Add) (lift2 (gd X) wAdd) := by
  intro pins s σ H x y v u Q I rx ry h
  obtain ⟨as, st, dx, dy, P, R, qx, qy, w, k⟩ := h
  unfold wAdd at w
  split at w
  · rename_i i j e1 e2
    have e1 := vw_int e1
    have e2 := vw_int e2
    subst e1; subst e2
    exact op_add pins s σ H x y v u Q I rx ry ⟨i, j, rep_int qx, rep_int qy, k _ _ H w (Same.refl H) (.int _)⟩
  · rename_i a b e1 e2
    have e1 := vw_tup e1
    have e2 := vw_tup e2
    subst e1; subst e2
    obtain ⟨p1, xs, rfl, h1, r1⟩ := rep_tup qx
    obtain ⟨p2, ys, rfl, h2, r2⟩ := rep_tup qy
    refine op_catA pins s σ H _ _ v u Q I rx ry ⟨p1, p2, xs, ys, rfl, rfl, h1, h2, by rw [r1.length, r2.length]; exact w.1, fun e => ?_, fun _ e => ?_, fun _ _ p hp => ?_⟩
    · subst e
      cases r1
      exact k _ _ H w.2 (Same.refl H) (.tup h2 r2)
    · subst e
      cases r2
      exact k _ _ H w.2 (Same.refl H) (.tup h1 (by rw [List.append_nil]; exact r1))
    · exact new_tup (P := P) p hp (r1.append r2) w.2 k
  · rename_i a b e1 e2
    obtain ⟨p1, xs, rfl, h1, r1⟩ := rep_listR R qx e1
    obtain ⟨p2, ys, rfl, h2, r2⟩ := rep_listR R qy e2
    exact opR_frz op_catL pins s σ H _ _ v u Q I rx ry ⟨p1, p2, xs, ys, rfl, rfl, h1, h2, by rw [r1.length, r2.length]; exact w.1, fun p hp => frzQ_new (P := P) p hp (r1.append r2) w.2 k⟩
  · exact w.elim

/-! ### items, slices -/
/-- x[i] of a list or tuple -/
def wIx : WP2 := fun x y st Q => ∃ i, y = .int i ∧ match vw st x with
  | .tup ds => ∃ d, atI ds i = some d ∧ Q d
  | .lst ds => ∃ d, atI ds i = some d ∧ Q d
  | _ => False
theorem rep_atI {G : Gd} {H : Hp} {as : List Addr} {xs : List V} {ds : List D} (r : RepAll G H as xs ds) {i : Int} {d : D} (h : atI ds i = some d) : ∃ v, atI xs i = some v ∧ Rep G H as v d := by
  unfold atI at h ⊢
  rw [r.length]
  cases q : ixN ds.length i with
  | none => rw [q] at h; cases h
  | some j =>
    rw [q] at h
    obtain ⟨v, e, rr⟩ := r.get h
    exact ⟨v, e, rr⟩
theorem rix : IxR X (lift2 (gd X) wIx) := by
  intro value slice pins s σ H x y v u Q I rx ry h hs
  obtain ⟨as, st, dx, dy, P, R, qx, qy, ⟨i, ey, w⟩, k⟩ := h
  subst ey
  split at w
  · rename_i ds e
    have e := vw_tup e
    subst e
    obtain ⟨d, hd, p⟩ := w
    obtain ⟨a, xs, rfl, h1, r1⟩ := rep_tup qx
    obtain ⟨z, e2, rz⟩ := rep_atI r1 hd
    exact ix_tup value slice pins s σ H _ y v u Q I rx ry ⟨a, xs, i, z, rfl, rep_int qy, h1, e2, k _ _ H p (Same.refl H) rz⟩ hs
  · rename_i ds e
    obtain ⟨d, hd, p⟩ := w
    obtain ⟨a, xs, rfl, h1, r1⟩ := rep_list R qx e
    obtain ⟨z, e2, rz⟩ := rep_atI r1 hd
    exact ix_list value slice pins s σ H _ y v u Q I rx ry ⟨a, xs, i, z, rfl, rep_int qy, h1, e2, k _ _ H p (Same.refl H) rz⟩ hs
  · exact w.elim
theorem de_ix {a b : Expr} {da db : DE} {pos : Pos} (ha : DEx X a da) (hb : DEx X b db) (hs : PlainIx b := by exact fun _ _ => rfl) : DEx X (.Subscript a b pos) (dOp wIx da db) :=
  pe_con' (pe_ix rix ha hb hs) fun _ _ _ h => lift_op h
/-- slices' bounds -/
abbrev DO := DS → (Option Int → DS → Prop) → Prop
def dNoP : DO := fun ρ Q => Q none ρ
def dSome (a : DE) : DO := fun ρ Q => a ρ fun x ρ' => ∃ i, x = .int i ∧ Q (some i) ρ'
def cutD (ds : List D) (lo hi : Option Int) : List D := (ds.drop (HT.sIx ds.length 0 lo)).take (HT.sIx ds.length ds.length hi - HT.sIx ds.length 0 lo)
def liftO (G : Gd) (d : DO) : TO := fun σ H Q => ∃ as ρ P, RepS G H as σ ρ ∧ d ρ P ∧ ∀ o ρ' as' H', P o ρ' → RepS G H' as' σ ρ' → Frm as H as' H' → Q o H'
def DOx (X : Cx) (e : Option Expr) (d : DO) : Prop := PO X e (liftO (gd X) d)
theorem po_con' {e : Option Expr} {t t' : TO} (h : PO X e t) (c : ∀ σ H Q, t' σ H Q → t σ H Q) : PO X e t' := ⟨fun pins s σ H Q I q => h.run pins s σ H Q I (c σ H Q q)⟩
theorem do_no : DOx X none dNoP := po_con' po_none fun σ H Q ⟨as, ρ, P, R, w, k⟩ => k _ ρ as H w R (.refl _ _)
theorem do_some {e : Expr} {d : DE} (h : DEx X e d) : DOx X (some e) (dSome d) := po_con' (po_some h) fun σ H Q ⟨as, ρ, P, R, w, k⟩ =>
  ⟨as, ρ, _, R, w, fun x ρ' as' v H' w' R' r f => by
    obtain ⟨i, rfl, p⟩ := w'
    exact ⟨i, rep_int r, k _ ρ' as' H' p R' f⟩⟩
/-- x[lo:hi] -/
def dSl (a : DE) (l h : DO) : DE := fun ρ Q => a ρ fun x ρ1 => l ρ1 fun lo ρ2 => h ρ2 fun hi ρ3 => match vw ρ3.st x with
  | .tup ds => Q (.tup (cutD ds lo hi)) ρ3
  | .lst ds => Q (.lst (cutD ds lo hi)) ρ3
  | _ => False
theorem cut_rep {G : Gd} {H : Hp} {as : List Addr} {xs : List V} {ds : List D} (r : RepAll G H as xs ds) (lo hi : Option Int) : RepAll G H as (cutV xs lo hi) (cutD ds lo hi) := by
  unfold cutV cutD
  rw [r.length]
  exact (r.drop _).take _
theorem cutD_whole {ds : List D} {lo hi : Option Int} (h : HT.sIx ds.length 0 lo = 0 ∧ HT.sIx ds.length ds.length hi = ds.length) : cutD ds lo hi = ds := by
  unfold cutD
  rw [h.1, h.2, List.drop_zero, Nat.sub_zero, List.take_length]
def rSlD (G : Gd) : V → Option Int → Option Int → Hp → VK → Prop := fun x lo hi H Q => ∃ (as : List Addr) (st : List Cell) (dx : D) (P : D → Prop), RepSt G H as st ∧ Rep G H as x dx ∧ (match vw st dx with
  | .tup ds => P (.tup (cutD ds lo hi))
  | .lst ds => P (.lst (cutD ds lo hi))
  | _ => False) ∧ ∀ z v H', P z → Same H H' → Rep G H' as v z → Q v H'
theorem rsl : SlR X (rSlD (gd X)) := by
  intro pins s σ H x v vl vu lo hi sl Q I rx hs pl pu h
  obtain ⟨as, st, dx, P, R, qx, w, k⟩ := h
  split at w
  · rename_i ds e
    have e := vw_tup e
    subst e
    obtain ⟨a, xs, rfl, h1, r1⟩ := rep_tup qx
    refine sl_tupA pins s σ H _ v vl vu lo hi sl Q I rx hs pl pu ⟨a, xs, rfl, h1, fun e => ?_, fun _ p hp => new_tup (P := P) p hp (cut_rep r1 lo hi) w k⟩
    rw [r1.length] at e
    rw [cutD_whole e] at w
    exact k _ _ H w (Same.refl H) (.tup h1 r1)
  · rename_i ds e
    obtain ⟨a, xs, rfl, h1, r1⟩ := rep_list R qx e
    obtain ⟨T, id, hsl, hty, run⟩ := sl_list pins s σ H _ v vl vu lo hi sl (frzQ Q) I rx hs pl pu ⟨a, xs, rfl, h1, fun p hp => frzQ_new (P := P) p hp (cut_rep r1 lo hi) w k⟩
    exact ⟨T, id, hsl, hty, thn run fun _ _ z => EP.frz z⟩
  · exact w.elim
theorem de_sl {e : Expr} {lo hi : Option Expr} {d : DE} {dl dh : DO} {p2 pos : Pos} (he : DEx X e d) (hl : DOx X lo dl) (hh : DOx X hi dh) : DEx X (.Subscript e (.Slice lo hi none p2) pos) (dSl d dl dh) :=
  pe_con' (pe_slice rsl he hl hh) fun σ H Q ⟨as, ρ, P, R, w, k⟩ =>
    ⟨as, ρ, _, R, w, fun x ρ1 as1 v1 H1 w1 R1 r1 f1 => ⟨as1, ρ1, _, R1, w1, fun lo ρ2 as2 H2 w2 R2 f2 => ⟨as2, ρ2, _, R2, w2, fun hi ρ3 as3 H3 w3 R3 f3 =>
      ⟨as3, ρ3.st, x, fun z => P z ρ3, R3.st, r1.frm (f2.trans f3), w3, fun z v H' pz s r => k z ρ3 as3 v H' pz (R3.same s) r (((f1.trans f2).trans f3).trans (.same s))⟩⟩⟩⟩
/-- xs[::-1] of a list -/
def dRevL (a : DE) : DE := fun ρ Q => a ρ fun x ρ1 => ∃ ds, vw ρ1.st x = .lst ds ∧ Q (.lst ds.reverse) ρ1
theorem de_revL {e : Expr} {d : DE} {k : Nat} {p1 p2 p3 pos : Pos} (he : DEx X e d) : DEx X (.Subscript e (.Slice none none (some (.UnaryOp .USub (.Constant (.int 1) k p1) p2)) p3) pos) (dRevL d) :=
  pe_con' (pe_frz (pe_revL he)) fun σ H Q ⟨as, ρ, P, R, w, k⟩ =>
    ⟨as, ρ, _, R, w, fun x ρ1 as1 v1 H1 w1 R1 r1 f1 => by
      obtain ⟨ds, e, p⟩ := w1
      obtain ⟨a, xs, rfl, h1, rr⟩ := rep_list R1.st r1 e
      exact ⟨a, xs, rfl, h1, fun q hq => frzQ_new (P := fun z => z = .lst ds.reverse) q hq rr.reverse rfl fun z v H' ez s r => by
        subst ez
        exact k _ ρ1 as1 v H' p (R1.same s) r (f1.trans (.same s))⟩⟩
end
end BB
set_option maxRecDepth 100000
/-! The data layer, 4: targets, statements, loops, the body of a def. -/
namespace BB
open PySem PySem.Spec PyProof.Rows L2

/-! ### slots forgotten -/
def wipeD (sl : List (Option D)) : List Nat → List (Option D)
  | [] => sl
  | v :: vs => (wipeD sl vs).set v none
theorem wipeD_length (sl : List (Option D)) : ∀ vs : List Nat, (wipeD sl vs).length = sl.length
  | [] => rfl
  | v :: vs => by unfold wipeD; rw [List.length_set, wipeD_length sl vs]
theorem wipe_get (σ : L2.St) (i : Nat) : ∀ vs : List Nat, (wipe σ vs)[i]? = if i ∈ vs then (σ[i]?).map (fun _ => none) else σ[i]?
  | [] => by simp [wipe]
  | v :: vs => by
    unfold wipe
    by_cases hv : v = i
    · subst hv
      rw [if_pos List.mem_cons_self]
      by_cases hl : v < σ.length
      · rw [List.getElem?_set_self (by rw [wipe_length]; exact hl), List.getElem?_eq_getElem hl]; rfl
      · rw [List.getElem?_eq_none (by rw [List.length_set, wipe_length]; omega), List.getElem?_eq_none (by omega)]; rfl
    · rw [List.getElem?_set_ne hv, wipe_get σ i vs]
      have : i ∈ v :: vs ↔ i ∈ vs := by simp [Ne.symm hv]
      by_cases hi : i ∈ vs
      · rw [if_pos hi, if_pos (this.mpr hi)]
      · rw [if_neg hi, if_neg (fun z => hi (this.mp z))]
theorem wipe_eq {σ σ' : L2.St} {vs : List Nat} (hl : σ'.length = σ.length) (h : ∀ i, i ∉ vs → σ'[i]? = σ[i]?) : wipe σ' vs = wipe σ vs := by
  apply List.ext_getElem?
  intro i
  rw [wipe_get, wipe_get]
  by_cases hi : i ∈ vs
  · rw [if_pos hi, if_pos hi]
    by_cases h2 : i < σ.length
    · rw [List.getElem?_eq_getElem h2, List.getElem?_eq_getElem (by rw [hl]; exact h2)]; rfl
    · rw [List.getElem?_eq_none (by omega), List.getElem?_eq_none (by omega)]
  · rw [if_neg hi, if_neg hi]; exact h i hi
theorem wipe_set (σ : L2.St) {i : Nat} {vs : List Nat} (h : i ∈ vs) (x : Option V) : wipe (σ.set i x) vs = wipe σ vs :=
  wipe_eq (by rw [List.length_set]) fun j hj => List.getElem?_set_ne (fun e => hj (by rw [← e]; exact h))
theorem wipe_wipe (σ : L2.St) (vs : List Nat) : wipe (wipe σ vs) vs = wipe σ vs :=
  wipe_eq (wipe_length _ _) fun j hj => by rw [wipe_get, if_neg hj]
section
variable {G : Gd} {H : Hp} {as : List Addr} {σ : L2.St} {ρ : DS}
theorem wipeD_get (sl : List (Option D)) (i : Nat) : ∀ vs : List Nat, ∀ d, (wipeD sl vs)[i]? = some (some d) → sl[i]? = some (some d) ∧ i ∉ vs
  | [], d, h => ⟨h, by simp⟩
  | v :: vs, d, h => by
    unfold wipeD at h
    by_cases hi : v = i
    · subst hi
      by_cases hv : v < (wipeD sl vs).length
      · rw [List.getElem?_set_self hv] at h; cases h
      · rw [List.getElem?_eq_none (by simpa using hv)] at h; cases h
    · rw [List.getElem?_set_ne hi] at h
      obtain ⟨h1, h2⟩ := wipeD_get sl i vs d h
      exact ⟨h1, by simp only [List.mem_cons, not_or]; exact ⟨fun e => hi e.symm, h2⟩⟩
theorem RepS.wipe (R : RepS G H as σ ρ) (vs : List Nat) : RepS G H as (wipe σ vs) ⟨wipeD ρ.sl vs, ρ.st⟩ := ⟨by rw [wipe_length, R.len]; exact (wipeD_length _ _).symm, fun i d h => by
  obtain ⟨h1, h2⟩ := wipeD_get _ _ _ _ h
  obtain ⟨v, e, r⟩ := R.slot i d h1
  exact ⟨v, by rw [wipe_get, if_neg h2]; exact e, r⟩, R.st⟩
end

/-! ### targets -/
abbrev DG := D → DS → (DS → Prop) → Prop
abbrev DGs := List D → DS → (DS → Prop) → Prop
def liftG (G : Gd) (vs : List Nat) (g : DG) : TG := fun v σ H Q => ∃ as ρ d P, RepS G H as σ ρ ∧ Rep G H as v d ∧ g d ρ P ∧ ∀ ρ' as' σ' H', P ρ' → RepS G H' as' σ' ρ' → Frm as H as' H' → wipe σ' vs = wipe σ vs → Q σ' H'
def liftGs (G : Gd) (vs : List Nat) (g : DGs) : TGs := fun us σ H Q => ∃ as ρ ds P, RepS G H as σ ρ ∧ RepAll G H as us ds ∧ g ds ρ P ∧ ∀ ρ' as' σ' H', P ρ' → RepS G H' as' σ' ρ' → Frm as H as' H' → wipe σ' vs = wipe σ vs → Q σ' H'
def DGx (X : Cx) (vs : List Nat) (tg : Expr) (g : DG) : Prop := PG X tg (liftG (gd X) vs g)
def DGsx (X : Cx) (vs : List Nat) (tgs : List Expr) (g : DGs) : Prop := PGs X tgs (liftGs (gd X) vs g)
section
variable {X : Cx} {pos : Pos} {vs : List Nat}
theorem pg_con' {tg : Expr} {t t' : TG} (h : PG X tg t) (c : ∀ v σ H Q, t' v σ H Q → t v σ H Q) : PG X tg t' := ⟨fun pins s σ H v u Q I r q => h.run pins s σ H v u Q I r (c v σ H Q q)⟩
theorem pgs_con' {tg : List Expr} {t t' : TGs} (h : PGs X tg t) (c : ∀ v σ H Q, t' v σ H Q → t v σ H Q) : PGs X tg t' := ⟨fun pins s σ H v u Q I r q => h.run pins s σ H v u Q I r (c v σ H Q q)⟩
def gSet (i : Nat) : DG := fun d ρ Q => Q ⟨ρ.sl.set i (some d), ρ.st⟩
theorem dg_name {i : Nat} {x : Str} (hN : X.N.Nodup) (hi : X.N[i]? = some x) (hx : Loc X.env.scope x) (hm : i ∈ vs) (hf : X.fn x = true ∨ X.env.scope.names.lookup x = some .local := by first | exact .inl rfl | exact .inr rfl | assumption) : DGx X vs (.Name x pos) (gSet i) :=
  pg_con' (pg_name hN hi hx hf) fun v σ H Q ⟨as, ρ, d, P, R, r, w, k⟩ => k _ as _ H w (R.setSlot i r) (.refl _ _) (wipe_set σ hm _)
def gEnd : DGs := fun ds ρ Q => ds = [] ∧ Q ρ
def gMore (g : DG) (r : DGs) : DGs := fun ds ρ Q => ∃ d es, ds = d :: es ∧ g d ρ fun ρ' => r es ρ' Q
theorem dgs_nil : DGsx X vs [] gEnd := pgs_con' pgs_nil fun us σ H Q ⟨as, ρ, ds, P, R, r, ⟨e, w⟩, k⟩ => by
  subst e
  cases r
  exact ⟨rfl, k ρ as σ H w R (.refl _ _) rfl⟩
theorem dgs_cons {e : Expr} {es : List Expr} {g : DG} {r : DGs} (h1 : DGx X vs e g) (h2 : DGsx X vs es r) (hs : (assignEach (e :: es) X.env).map (·.2) = assign e X.env :: (assignEach es X.env).map (·.2) := by rfl) : DGsx X vs (e :: es) (gMore g r) :=
  pgs_con' (pgs_cons h1 h2 hs) fun us σ H Q ⟨as, ρ, ds, P, R, rr, ⟨d, es', e, w⟩, k⟩ => by
    subst e
    cases rr with
    | cons q qs =>
      exact ⟨_, _, rfl, as, ρ, d, _, R, q, w, fun ρ1 as1 σ1 H1 w1 R1 f1 e1 => ⟨as1, ρ1, es', _, R1, qs.frm f1, w1, fun ρ2 as2 σ2 H2 w2 R2 f2 e2 => k ρ2 as2 σ2 H2 w2 R2 (f1.trans f2) (e2.trans e1)⟩⟩
def gTupD (n : Nat) (r : DGs) : DG := fun d ρ Q => ∃ ds, d = .tup ds ∧ ds.length = n ∧ r ds ρ Q
theorem dg_tup {es : List Expr} {k n : Nat} {r : DGs} (hc : X.calm = true) (h : DGsx X vs es r)
    (hn : (assignEach es X.env).length = n := by rfl) (hst : (assignEach es X.env).findIdx? (·.1) = none := by rfl) : DGx X vs (.Tuple es k pos) (gTupD n r) :=
  pg_con' (pg_tup hc h hn hst) fun v σ H Q ⟨as, ρ, d, P, R, q, ⟨ds, e, hl, w⟩, k⟩ => by
    subst e
    obtain ⟨a, xs, rfl, h1, rr⟩ := rep_tup q
    exact ⟨a, xs, rfl, h1, rr.length.trans hl, as, ρ, ds, P, R, rr, w, k⟩

/-! ### small statements -/
def dNext : DP := fun P ρ => P.nx ρ
def dSeq (a b : DP) : DP := fun P ρ => a { P with nx := b P } ρ
def dDrop (e : DE) : DP := fun P ρ => e ρ fun _ ρ' => P.nx ρ'
def dRet (e : DE) : DP := fun P ρ => e ρ fun x ρ' => P.rt x ρ'.st
def dRetN : DP := fun P ρ => P.rt .non ρ.st
def dBrk : DP := fun P ρ => P.bk ρ
def dCont : DP := fun P ρ => P.ct ρ
def dIfS (t : DT) (a b : DP) : DP := fun P ρ => t ρ fun c ρ' => if c = true then a P ρ' else b P ρ'
def dAsg (e : DE) (g : DG) : DP := fun P ρ => e ρ fun x ρ' => g x ρ' P.nx
theorem EndsOk.frm {G : Gd} {P : DEnds} {as as' : List Addr} {H H' : Hp} {E : Ends} (k : EndsOk G P as H E) (f : Frm as H as' H') : EndsOk G P as' H' E :=
  ⟨fun ρ' as2 σ' H2 p R g => k.nx ρ' as2 σ' H2 p R (f.trans g), fun x st' as2 v H2 p R r g => k.rt x st' as2 v H2 p R r (f.trans g), fun ρ' as2 σ' H2 p R g => k.bk ρ' as2 σ' H2 p R (f.trans g), fun ρ' as2 σ' H2 p R g => k.ct ρ' as2 σ' H2 p R (f.trans g)⟩
section
variable {st : Stmt} {rest : List Stmt} {a b : DP} {e : Expr} {d : DE}
theorem ds_nil : DPs X [] dNext := pss_con' pss_nil fun E σ H ⟨as, ρ, P, R, w, k⟩ => k.nx ρ as σ H w R (.refl _ _)
theorem ds_cons (h1 : DPx X st a) (h2 : DPs X rest b) : DPs X (st :: rest) (dSeq a b) := pss_con' (pss_cons h1 h2) fun E σ H ⟨as, ρ, P, R, w, k⟩ =>
  ⟨as, ρ, _, R, w, ⟨fun ρ' as' σ' H' p R' f => ⟨as', ρ', P, R', p, k.frm f⟩, k.rt, k.bk, k.ct⟩⟩
theorem ds_one (h1 : DPx X st a) : DPs X [st] a := pss_one h1
theorem dp_pass : DPx X (.Pass pos) dNext := ps_con' ps_pass fun E σ H ⟨as, ρ, P, R, w, k⟩ => k.nx ρ as σ H w R (.refl _ _)
theorem dp_brk : DPx X (.Break pos) dBrk := ps_con' ps_break fun E σ H ⟨as, ρ, P, R, w, k⟩ => k.bk ρ as σ H w R (.refl _ _)
theorem dp_cont : DPx X (.Continue pos) dCont := ps_con' ps_continue fun E σ H ⟨as, ρ, P, R, w, k⟩ => k.ct ρ as σ H w R (.refl _ _)
theorem dp_expr (he : DEx X e d) (hs : swapsWith e none pos.line X.env = pure false := by rfl) : DPx X (.Expr e pos) (dDrop d) := ps_con' (ps_expr he hs) fun E σ H ⟨as, ρ, P, R, w, k⟩ =>
  ⟨as, ρ, _, R, w, fun x ρ' as' v H' w' R' r f => k.nx ρ' as' σ H' w' R' f⟩
theorem dp_ret (he : DEx X e d) : DPx X (.Return (some e) pos) (dRet d) := ps_con' (ps_ret he) fun E σ H ⟨as, ρ, P, R, w, k⟩ =>
  ⟨as, ρ, _, R, w, fun x ρ' as' v H' w' R' r f => k.rt x ρ'.st as' v H' w' R'.st r f⟩
theorem dp_retN : DPx X (.Return none pos) dRetN := ps_con' ps_retN fun E σ H ⟨as, ρ, P, R, w, k⟩ => k.rt .non ρ.st as .non H w R.st .non (.refl _ _)
theorem dp_if {c : Expr} {t : DT} {as' bs : List Stmt} (hc : DTx X c t) (ha : DPs X as' a) (hb : DPs X bs b) : DPx X (.If c as' bs pos) (dIfS t a b) := ps_con' (ps_if hc ha hb) fun E σ H ⟨as, ρ, P, R, w, k⟩ =>
  ⟨as, ρ, _, R, w, fun c ρ' as' H' w' R' f => by
    cases c with
    | true => rw [if_pos rfl] at w' ⊢; exact ⟨as', ρ', P, R', w', k.frm f⟩
    | false => rw [if_neg Bool.false_ne_true] at w' ⊢; exact ⟨as', ρ', P, R', w', k.frm f⟩⟩
theorem dp_never {st : Stmt} : DPx X st (fun _ _ => False) := ps_con' ps_never fun E σ H ⟨as, ρ, P, R, w, k⟩ => w
theorem dp_asg {tg : Expr} {g : DG} (he : DEx X e d) (hg : DGx X vs tg g) (hs : swapsWithSole [tg] e pos.line X.env = pure false := by rfl) (hw : swappedStores [tg] e X.env = pure none := by rfl)
    (h1 : (assignEach [tg] X.env).map (·.2) = [assign tg X.env] := by rfl) : DPx X (.Assign [tg] e pos) (dAsg d g) := ps_con' (ps_asg he hg hs hw h1) fun E σ H ⟨as, ρ, P, R, w, k⟩ =>
  ⟨as, ρ, _, R, w, fun x ρ1 as1 v1 H1 w1 R1 r1 f1 => ⟨as1, ρ1, x, _, R1, r1, w1, fun ρ2 as2 σ2 H2 w2 R2 f2 _ => k.nx ρ2 as2 σ2 H2 w2 R2 (f1.trans f2)⟩⟩
theorem dp_set {i : Nat} {x : Str} {pos' : Pos} (hN : X.N.Nodup) (hi : X.N[i]? = some x) (hx : Loc X.env.scope x) (he : DEx X e d) (hs : swapsWith e (some (.Name x pos')) pos.line X.env = pure false := by rfl) (hf : X.fn x = true ∨ X.env.scope.names.lookup x = some .local := by first | exact .inl rfl | exact .inr rfl | assumption) :
    DPx X (.Assign [.Name x pos'] e pos) (dAsg d (gSet i)) := ps_con' (ps_set hN hi hx he hs hf) fun E σ H ⟨as, ρ, P, R, w, k⟩ =>
  ⟨as, ρ, _, R, w, fun x ρ1 as1 v1 H1 w1 R1 r1 f1 => k.nx _ as1 _ H1 w1 (R1.setSlot i r1) f1⟩
/-- a, b = x, y with plain local names -/
def dPar (i j : Nat) (a : DA) : DP := fun P ρ => a ρ fun xs ρ1 => ∃ x y, xs = [x, y] ∧ P.nx ⟨(ρ1.sl.set i (some x)).set j (some y), ρ1.st⟩
theorem dp_par {i j : Nat} {x y : Str} {ea eb : Expr} {da : DA} {px py pt : Pos} {kt k2 pt2} (hc : X.calm = true) (hN : X.N.Nodup) (hi : X.N[i]? = some x) (hj : X.N[j]? = some y) (hij : i ≠ j)
    (hx : X.env.scope.names.lookup x = some .local) (hy : X.env.scope.names.lookup y = some .local) (ha : DAx X [ea, eb] da)
    (hw : swappedStores [.Tuple [.Name x px, .Name y py] kt pt] (.Tuple [ea, eb] k2 pt2) X.env = pure (some [x, y]))
    (hs : swapsWithSole [.Tuple [.Name x px, .Name y py] kt pt] (.Tuple [ea, eb] k2 pt2) pos.line X.env = pure false := by rfl) :
    DPx X (.Assign [.Tuple [.Name x px, .Name y py] kt pt] (.Tuple [ea, eb] k2 pt2) pos) (dPar i j da) := ps_con' (ps_par hc hN hi hj hij hx hy ha hw hs) fun E σ H ⟨as, ρ, P, R, w, k⟩ =>
  ⟨as, ρ, _, R, w, fun xs ρ1 as1 vs H1 w1 R1 r1 f1 => by
    obtain ⟨x, y, rfl, p⟩ := w1
    cases r1 with
    | cons q1 q2 =>
      cases q2 with
      | cons q2 q3 =>
        cases q3
        exact ⟨_, _, rfl, k.nx _ as1 _ H1 p ((R1.setSlot i q1).setSlot j q2) f1⟩⟩
def dPar3 (i j l : Nat) (a : DA) : DP := fun P ρ => a ρ fun xs ρ1 => ∃ x y z, xs = [x, y, z] ∧ P.nx ⟨((ρ1.sl.set i (some x)).set j (some y)).set l (some z), ρ1.st⟩
theorem dp_par3 {i j l : Nat} {x y z : Str} {ea eb ec : Expr} {da : DA} {px py pz pt : Pos} {kt k2 pt2} (hc : X.calm = true) (hN : X.N.Nodup) (hi : X.N[i]? = some x) (hj : X.N[j]? = some y) (hl : X.N[l]? = some z) (hij : i ≠ j) (hil : i ≠ l) (hjl : j ≠ l)
    (hx : X.env.scope.names.lookup x = some .local) (hy : X.env.scope.names.lookup y = some .local) (hz : X.env.scope.names.lookup z = some .local) (ha : DAx X [ea, eb, ec] da)
    (hw : swappedStores [.Tuple [.Name x px, .Name y py, .Name z pz] kt pt] (.Tuple [ea, eb, ec] k2 pt2) X.env = pure (some [x, y, z]))
    (hs : swapsWithSole [.Tuple [.Name x px, .Name y py, .Name z pz] kt pt] (.Tuple [ea, eb, ec] k2 pt2) pos.line X.env = pure false := by rfl) :
    DPx X (.Assign [.Tuple [.Name x px, .Name y py, .Name z pz] kt pt] (.Tuple [ea, eb, ec] k2 pt2) pos) (dPar3 i j l da) := ps_con' (ps_par3 hc hN hi hj hl hij hil hjl hx hy hz ha hw hs) fun E σ H ⟨as, ρ, P, R, w, k⟩ =>
  ⟨as, ρ, _, R, w, fun xs ρ1 as1 vs H1 w1 R1 r1 f1 => by
    obtain ⟨x, y, z, rfl, p⟩ := w1
    cases r1 with
    | cons q1 q2 =>
      cases q2 with
      | cons q2 q3 =>
        cases q3 with
        | cons q3 q4 =>
          cases q4
          exact ⟨_, _, _, rfl, k.nx _ as1 _ H1 p (((R1.setSlot i q1).setSlot j q2).setSlot l q3) f1⟩⟩
/-- name += e, ints -/
def dAug (i : Nat) (e : DE) : DP := fun P ρ => ∃ n, ρ.sl[i]? = some (some (.int n)) ∧ e ρ fun y ρ1 => ∃ m, y = .int m ∧ P.nx ⟨ρ1.sl.set i (some (.int (n + m))), ρ1.st⟩
theorem dp_aug {i : Nat} {x : Str} {pos' : Pos} (hN : X.N.Nodup) (hi : X.N[i]? = some x) (hx : Loc X.env.scope x) (he : DEx X e d) (hf : X.fn x = true ∨ X.env.scope.names.lookup x = some .local := by first | exact .inl rfl | exact .inr rfl | assumption) :
    DPx X (.AugAssign (.Name x pos') .Add e pos) (dAug i d) := ps_con' (ps_aug hN hi hx he ip_add hf) fun E σ H ⟨as, ρ, P, R, ⟨n, hn, w⟩, k⟩ => by
  obtain ⟨v, ev, rv⟩ := R.slot i _ hn
  refine ⟨v, ev, as, ρ, _, R, w, fun y ρ1 as1 v1 H1 w1 R1 r1 f1 => ?_⟩
  obtain ⟨m, rfl, p⟩ := w1
  exact ⟨n, m, rep_int rv, rep_int r1, k.nx _ as1 _ H1 p (R1.setSlot i (.int _)) f1⟩
end

/-! ### while -/
def dWhile (t : DT) (b : DP) : DP := fun P ρ => ∃ W : Nat → DS → Prop, (∃ m, W m ρ) ∧ ∀ m ρ, W m ρ → t ρ fun c ρ1 => if c = true then b { P with nx := fun ρ' => ∃ m', m' < m ∧ W m' ρ', ct := fun ρ' => ∃ m', m' < m ∧ W m' ρ', bk := P.nx } ρ1 else P.nx ρ1
theorem dp_while {c : Expr} {body : List Stmt} {t : DT} {b : DP} (hp : PassesOwn (model X.prog X.w) X.A X.env X.xe) (hc : DTx X c t) (hb : DPs X body b) : DPx X (.While c body [] pos) (dWhile t b) := ps_con' (ps_while hp hc hb) fun E σ H ⟨as, ρ, P, R, ⟨W, ⟨m, w0⟩, turn⟩, k⟩ => by
  refine ⟨fun m σ' H' => ∃ as' ρ', RepS (gd X) H' as' σ' ρ' ∧ Frm as H as' H' ∧ W m ρ', ⟨m, as, ρ, R, .refl _ _, w0⟩, ?_⟩
  rintro m σ1 H1 ⟨as1, ρ1, R1, f1, w1⟩
  refine ⟨as1, ρ1, _, R1, turn m ρ1 w1, fun c ρ2 as2 H2 w2 R2 f2 => ?_⟩
  cases c with
  | false => rw [if_neg Bool.false_ne_true] at w2 ⊢; exact k.nx ρ2 as2 _ H2 w2 R2 (f1.trans f2)
  | true =>
    rw [if_pos rfl] at w2 ⊢
    refine ⟨fun σ' H' => ∃ m', m' < m ∧ ∃ as' ρ', RepS (gd X) H' as' σ' ρ' ∧ Frm as H as' H' ∧ W m' ρ', fun σ' H' ⟨m', hm, q⟩ => ⟨m', hm, q⟩, as2, ρ2, _, R2, w2, ⟨?_, ?_, ?_, ?_⟩⟩
    · exact fun ρ' as' σ' H' ⟨m', hm, p⟩ R' f => ⟨m', hm, as', ρ', R', (f1.trans f2).trans f, p⟩
    · exact fun x st' as' v H' p R' r f => k.rt x st' as' v H' p R' r ((f1.trans f2).trans f)
    · exact fun ρ' as' σ' H' p R' f => k.nx ρ' as' σ' H' p R' ((f1.trans f2).trans f)
    · exact fun ρ' as' σ' H' ⟨m', hm, p⟩ R' f => ⟨m', hm, as', ρ', R', (f1.trans f2).trans f, p⟩

/-! ### what is walked -/
abbrev DI := DS → (List D → DS → Prop) → Prop
structure Yld (G : Gd) (J : It) (as : List Addr) (H : Hp) (xs : List D) : Prop where
  size : xs.length ≤ sizeLine
  item : ∀ H2, (∀ b xs, H b = some (.tup xs) → H2 b = some (.tup xs)) → (∀ b o u, H b = some (.frz o u) → H2 b = some (.frz o u)) → ∀ (i : Nat) (d : D), xs[i]? = some d → J.go i H2 ∧ ∀ x H3, J.yld i H2 x H3 → Rep G H3 as x d ∧ Same H2 H3
  stop : ∀ H2, (∀ b xs, H b = some (.tup xs) → H2 b = some (.tup xs)) → (∀ b o u, H b = some (.frz o u) → H2 b = some (.frz o u)) → ∀ (i : Nat), xs.length ≤ i → J.stop i H2
def liftI (G : Gd) (di : DI) : TI := fun σ H R => ∃ as ρ P, RepS G H as σ ρ ∧ di ρ P ∧ ∀ xs ρ' as' H' J, P xs ρ' → RepS G H' as' σ ρ' → Frm as H as' H' → Yld G J as' H' xs → R J H'
def DIx (X : Cx) (tg it : Expr) (di : DI) : Prop := PI X tg it (liftI (gd X) di)
def dFor (di : DI) (g : DG) (b : DP) : DP := fun P ρ => di ρ fun xs ρ1 => ∃ W : Nat → DS → Prop, W 0 ρ1 ∧
  (∀ i x ρ, xs[i]? = some x → W i ρ → g x ρ fun ρ2 => b { P with nx := W (i + 1), ct := W (i + 1), bk := P.nx } ρ2) ∧ ∀ ρ, W xs.length ρ → P.nx ρ
theorem dp_for {tg iter : Expr} {body : List Stmt} {di : DI} {g : DG} {b : DP} (hp : PassesOwn (model X.prog X.w) X.A X.env X.xe) (hc : X.calm = true) (hi : DIx X tg iter di) (hg : DGx X vs tg g) (hb : DPs X body b)
    (hs : ∀ x, foldedSetIterable iter X.env x = pure x := by intro _; rfl) : DPx X (.For tg iter body [] pos) (dFor di g b) := ps_con' (ps_for hp hc hi hg hb hs) fun E σ H ⟨as, ρ, P, R, w, k⟩ => by
  refine ⟨as, ρ, _, R, w, fun xs ρ1 as1 H1 J w1 R1 f1 Y => ?_⟩
  obtain ⟨W, w0, turn, fin⟩ := w1
  refine ⟨fun i m σ' H' => m = xs.length - i ∧ i ≤ xs.length ∧ ∃ as' ρ', RepS (gd X) H' as' σ' ρ' ∧ Frm as1 H1 as' H' ∧ W i ρ', ⟨xs.length, by simp, Nat.zero_le _, as1, ρ1, R1, .refl _ _, w0⟩, ?_⟩
  rintro i m σ2 H2 ⟨rfl, hi, as2, ρ2, R2, f2, w2⟩
  by_cases hlt : i < xs.length
  · obtain ⟨go, yl⟩ := Y.item H2 f2.tups f2.frzs i xs[i] (by simp [hlt])
    refine .inr ⟨go, fun σ' H' => ∃ as' ρ', RepS (gd X) H' as' σ' ρ' ∧ Frm as1 H1 as' H' ∧ W (i + 1) ρ', fun σ' H' q => ⟨xs.length - (i + 1), by omega, rfl, hlt, q⟩, fun x H3 y => ?_⟩
    obtain ⟨r3, s3⟩ := yl x H3 y
    have f3 : Frm as1 H1 as2 H3 := f2.trans (.same s3)
    refine ⟨as2, ρ2, xs[i], _, R2.same s3, r3.mono (fun _ _ z => z) (fun _ _ _ z => z) f2.ix, turn i xs[i] ρ2 (by simp [hlt]) w2, fun ρ4 as4 σ4 H4 w4 R4 f4 _ => ?_⟩
    have f14 : Frm as1 H1 as4 H4 := f3.trans f4
    refine ⟨as4, ρ4, _, R4, w4, ⟨?_, ?_, ?_, ?_⟩⟩
    · exact fun ρ' as' σ' H' p R' f => ⟨as', ρ', R', f14.trans f, p⟩
    · exact fun x st' as' v H' p R' r f => k.rt x st' as' v H' p R' r (f1.trans (f14.trans f))
    · exact fun ρ' as' σ' H' p R' f => k.nx ρ' as' σ' H' p R' (f1.trans (f14.trans f))
    · exact fun ρ' as' σ' H' p R' f => ⟨as', ρ', R', f14.trans f, p⟩
  · have e : i = xs.length := by omega
    subst e
    exact .inl ⟨Y.stop H2 f2.tups f2.frzs _ (Nat.le_refl _), k.nx ρ2 as2 σ2 H2 (fin ρ2 w2) R2 (f1.trans f2)⟩
end
end BB
set_option maxRecDepth 100000
/-! The data layer, 5: what is walked; comprehensions; the body of a def. -/
namespace BB
open PySem PySem.Spec PyProof.Rows L2

section
variable {X : Cx}
/-- what is read as a list or tuple is no longer than the line -/
theorem pe_len {e : Expr} {t : TE} (h : PE X e t) : PE X e (fun σ H Q => t σ H fun v H' => (∀ a xs, v = .ref a → (SqL X.K H' a xs ∨ SqT X.K H' a xs) → xs.length ≤ sizeLine) → Q v H') := ⟨fun pins s σ H Q I q =>
  thn (h.run pins s σ H _ I q) fun u s' ⟨v, H', I', r, k⟩ => ⟨v, H', I', r, k fun a xs _ hq => by
    rcases hq with hq | hq
    · obtain ⟨_, _, _, z⟩ := I'.list hq; exact z
    · obtain ⟨_, _, _, z⟩ := I'.tuple hq; exact z⟩⟩
theorem pa_len {e : List Expr} {t : TA} (h : PA X e t) : PA X e (fun σ H Q => t σ H fun vs H' => (∀ a xs, (SqL X.K H' a xs ∨ SqT X.K H' a xs) → xs.length ≤ sizeLine) → Q vs H') := ⟨fun pos pins s σ H Q I q =>
  thn (h.run pos pins s σ H _ I q) fun u s' ⟨v, H', I', r, k⟩ => ⟨v, H', I', r, k fun a xs hq => by
    rcases hq with hq | hq
    · obtain ⟨_, _, _, z⟩ := I'.list hq; exact z
    · obtain ⟨_, _, _, z⟩ := I'.tuple hq; exact z⟩⟩
theorem pi_con' {tg it : Expr} {t t' : TI} (h : PI X tg it t) (c : ∀ σ H R, t' σ H R → t σ H R) : PI X tg it t' := ⟨fun pins s σ H R I q => h.run pins s σ H R I (c σ H R q)⟩
/-- a list or a tuple, whichever -/
def iSeq (K : PySem.W.Frag) (tl : TE) : TI := fun σ H R => tl σ H fun x H1 => ∃ a, x = .ref a ∧ (((∃ xs, SqL K H1 a xs) ∧ R (Itl K a) H1) ∨ ((∃ xs, SqT K H1 a xs) ∧ R (Itt K a) H1))
theorem pi_seq {tg l : Expr} {tl : TE} (hl : PE X l tl) : PI X tg l (iSeq X.K tl) := by
  refine ⟨fun pins s σ H R I h => ?_⟩
  refine thn (hl.run pins s σ H _ I h) fun v s1 ⟨x, H1, I1, r1, q1⟩ => ?_
  obtain ⟨a, e, q⟩ := q1
  subst e
  cases r1
  rcases q with ⟨⟨xs, hq⟩, q⟩ | ⟨⟨xs, hq⟩, q⟩
  · obtain ⟨its, rv, p, hz⟩ := I1.list hq
    refine wpAny_pyIter_list p.isList ?_
    refine ⟨s1.heap.objs.size, [s1.heap.objs.size], _, _, H1, rfl, I1.kept (t' := s1.toks) fun b o e => Heap.get?_push_of_some _ e, turn_list a _, ⟨_, Heap.get?_push_size _ rfl, rfl, rfl⟩, fun b hb => ?_, q⟩
    have e : b = s1.heap.objs.size := by simpa using hb
    subst e
    exact I1.fpOk (Nat.le_refl _) (I1.hok.fresh (Nat.le_refl _))
  · obtain ⟨its, rv, p, hz⟩ := I1.tuple hq
    refine wpAny_pyIter_tuple (show s1.heap.IsTuple a its.toArray from p) ?_
    refine ⟨s1.heap.objs.size, [s1.heap.objs.size], _, _, H1, rfl, I1.kept (t' := s1.toks) fun b o e => Heap.get?_push_of_some _ e, turn_tuple a _, ⟨_, Heap.get?_push_size _ rfl, rfl, rfl⟩, fun b hb => ?_, q⟩
    have e : b = s1.heap.objs.size := by simpa using hb
    subst e
    exact I1.fpOk (Nat.le_refl _) (I1.hok.fresh (Nat.le_refl _))

/-! ### lists, tuples -/
section
variable {G : Gd} {as : List Addr} {H : Hp} {a : Addr} {xs : List V} {ds : List D}
theorem yld_list (h : PsL G.K H a xs) (r : RepAll G H as xs ds) (hz : xs.length ≤ sizeLine) : Yld G (Itl G.K a) as H ds where
  size := by rw [← r.length]; exact hz
  item := fun H2 t f i d hd => by
    obtain ⟨x, hx, rx⟩ := r.get hd
    have q := (psL_mono (K := G.K) f h).sq
    exact ⟨⟨xs, x, q, hx⟩, fun y H3 ⟨e, hy⟩ => by
      subst e
      have := hy xs q
      rw [hx] at this
      cases this
      exact ⟨rx.mono t f (fun _ _ z => z), Same.refl _⟩⟩
  stop := fun H2 t f i hi => ⟨xs, (psL_mono (K := G.K) f h).sq, by rw [r.length]; exact hi⟩
theorem yld_tup (h : SqT G.K H a xs) (r : RepAll G H as xs ds) (hz : xs.length ≤ sizeLine) : Yld G (Itt G.K a) as H ds where
  size := by rw [← r.length]; exact hz
  item := fun H2 t f i d hd => by
    obtain ⟨x, hx, rx⟩ := r.get hd
    have q := sqT_mono (K := G.K) t f h
    exact ⟨⟨xs, x, q, hx⟩, fun y H3 ⟨e, hy⟩ => by
      subst e
      have := hy xs q
      rw [hx] at this
      cases this
      exact ⟨rx.mono t f (fun _ _ z => z), Same.refl _⟩⟩
  stop := fun H2 t f i hi => ⟨xs, sqT_mono (K := G.K) t f h, by rw [r.length]; exact hi⟩
end
/-- for x in e -/
def dIt (e : DE) : DI := fun ρ Q => e ρ fun x ρ' => match x with
  | .lst ds => Q ds ρ'
  | .tup ds => Q ds ρ'
  | _ => False
theorem di_seq {tg l : Expr} {d : DE} (hl : DEx X l d) : DIx X tg l (dIt d) := pi_con' (pi_seq (pe_len hl)) fun σ H R ⟨as, ρ, P, Rr, w, k⟩ =>
  ⟨as, ρ, _, Rr, w, fun x ρ1 as1 v1 H1 w1 R1 r1 f1 hlen => by
    cases r1 with
    | lst h rr => exact ⟨_, rfl, .inl ⟨⟨_, h.sq⟩, k _ ρ1 as1 H1 _ w1 R1 f1 (yld_list h rr (hlen _ _ rfl (.inl h.sq)))⟩⟩
    | tup h rr => exact ⟨_, rfl, .inr ⟨⟨_, h⟩, k _ ρ1 as1 H1 _ w1 R1 f1 (yld_tup h rr (hlen _ _ rfl (.inr h)))⟩⟩
    | _ => exact w1.elim⟩
/-! ### ranges -/
def intsD (lo : Int) (n : Nat) : List D := (List.range n).map fun (i : Nat) => .int (lo + (i : Int))
theorem intsD_length (lo : Int) (n : Nat) : (intsD lo n).length = n := by unfold intsD; rw [List.length_map, List.length_range]
theorem intsD_get (lo : Int) (n i : Nat) : (intsD lo n)[i]? = if i < n then some (.int (lo + (i : Int))) else none := by
  unfold intsD
  rw [List.getElem?_map]
  by_cases h : i < n
  · rw [if_pos h, List.getElem?_range h]; rfl
  · rw [if_neg h, List.getElem?_eq_none (by simpa using h)]; rfl
theorem yld_range (G : Gd) (as : List Addr) (H : Hp) (lo : Int) {n : Nat} (hn : n ≤ sizeLine) : Yld G (Itr lo n) as H (intsD lo n) where
  size := by rw [intsD_length]; exact hn
  item := fun H2 t f i d hd => by
    rw [intsD_get] at hd
    split at hd
    · rename_i h
      cases hd
      exact ⟨h, fun y H3 ⟨e1, e2⟩ => by subst e1; subst e2; exact ⟨.int _, Same.refl _⟩⟩
    · cases hd
  stop := fun H2 t f i hi => by rw [intsD_length] at hi; exact hi
/-- for i in range(n) -/
def dRg1 (a : DA) : DI := fun ρ Q => a ρ fun xs ρ' => ∃ j : Int, xs = [.int j] ∧ j ≤ 16777216 ∧ Q (intsD 0 j.toNat) ρ'
def dRg2 (a : DA) : DI := fun ρ Q => a ρ fun xs ρ' => ∃ i j : Int, xs = [.int i, .int j] ∧ 0 ≤ i ∧ i ≤ 16777216 ∧ j ≤ 16777216 ∧ Q (intsD i (j - i).toNat) ρ'
/-- a range's end below 2 ^ 62 in size: smaller ends walk alike (a negative one is nothing) -/
theorem di_range1 {tg a : Expr} {da : DA} {p pos : Pos} (hg : Gl X "range") (hm : X.mg "range" = none) (ha : DAx X [a] da) (hs : starEach [a] X.env = [(false, eval a X.env)] := by rfl) : DIx X tg (.Call (.Name "range" p) [a] [] pos) (dRg1 fun ρ Q => da ρ fun xs ρ' => (∀ j, xs = [.int j] → -(2 ^ 62) ≤ j) ∧ Q xs ρ') :=
  pi_con' (pi_range1 hg hm ha hs) fun σ H R ⟨as, ρ, P, Rr, w, k⟩ => ⟨as, ρ, _, Rr, w, fun xs ρ1 as1 vs H1 w1 R1 r1 f1 => by
    obtain ⟨hlo, j, rfl, hj, p⟩ := w1
    cases r1 with
    | cons q qs =>
      cases qs
      refine ⟨j, by rw [rep_int q], hlo j rfl, by omega, ?_⟩
      exact k _ ρ1 as1 H1 _ p R1 f1 (yld_range _ as1 H1 0 (by rw [sizeLine_eq]; omega))⟩
theorem di_range2 {tg a b : Expr} {da : DA} {p pos : Pos} (hg : Gl X "range") (hm : X.mg "range" = none) (ha : DAx X [a, b] da) (hs : starEach [a, b] X.env = [(false, eval a X.env), (false, eval b X.env)] := by rfl) (hs2 : starEach [b] X.env = [(false, eval b X.env)] := by rfl) :
    DIx X tg (.Call (.Name "range" p) [a, b] [] pos) (dRg2 fun ρ Q => da ρ fun xs ρ' => (∀ i j, xs = [.int i, .int j] → -(2 ^ 62) ≤ j) ∧ Q xs ρ') :=
  pi_con' (pi_range2 hg hm ha hs hs2) fun σ H R ⟨as, ρ, P, Rr, w, k⟩ => ⟨as, ρ, _, Rr, w, fun xs ρ1 as1 vs H1 w1 R1 r1 f1 => by
    obtain ⟨hlo, i, j, rfl, hi0, hi, hj, p⟩ := w1
    cases r1 with
    | cons q qs =>
      cases qs with
      | cons q2 qs =>
        cases qs
        refine ⟨i, j, by rw [rep_int q, rep_int q2], ⟨by omega, by omega, hlo i j rfl, by omega⟩, ?_⟩
        exact k _ ρ1 as1 H1 _ p R1 f1 (yld_range _ as1 H1 i (by rw [sizeLine_eq]; omega))⟩
/-! ### enumerate, zip -/
def enumD : Nat → List D → List D
  | _, [] => []
  | n, d :: ds => .tup [.int (n : Int), d] :: enumD (n + 1) ds
theorem enumD_length : ∀ (n : Nat) (ds : List D), (enumD n ds).length = ds.length
  | _, [] => rfl
  | n, d :: ds => by rw [enumD, List.length_cons, List.length_cons, enumD_length]
theorem enumD_get : ∀ (n : Nat) (ds : List D) (i : Nat), (enumD n ds)[i]? = (ds[i]?).map fun d => .tup [.int ((n + i : Nat) : Int), d]
  | n, [], i => by simp [enumD]
  | n, d :: ds, 0 => by simp [enumD]
  | n, d :: ds, i + 1 => by
    rw [enumD, List.getElem?_cons_succ, List.getElem?_cons_succ, enumD_get (n + 1) ds i]
    congr 1
    funext d
    congr 4
    omega
def zipD : List D → List D → List D
  | d :: ds, e :: es => .tup [d, e] :: zipD ds es
  | _, _ => []
theorem zipD_get : ∀ (ds es : List D) (i : Nat) (z : D), (zipD ds es)[i]? = some z → ∃ d e, ds[i]? = some d ∧ es[i]? = some e ∧ z = .tup [d, e]
  | [], _, i, z, h => by simp [zipD] at h
  | _ :: _, [], i, z, h => by simp [zipD] at h
  | d :: ds, e :: es, 0, z, h => by simp [zipD] at h; exact ⟨d, e, rfl, rfl, h.symm⟩
  | d :: ds, e :: es, i + 1, z, h => by
    rw [zipD, List.getElem?_cons_succ] at h
    obtain ⟨d', e', h1, h2, h3⟩ := zipD_get ds es i z h
    exact ⟨d', e', h1, h2, h3⟩
theorem zipD_length : ∀ (ds es : List D), (zipD ds es).length = min ds.length es.length
  | [], es => by simp [zipD]
  | d :: ds, [] => by simp [zipD]
  | d :: ds, e :: es => by rw [zipD, List.length_cons, zipD_length ds es, List.length_cons, List.length_cons]; omega
section
variable {G : Gd} {as : List Addr} {H : Hp} {a b : Addr} {xs ys : List V} {ds es : List D}
theorem pair_new {H2 : Hp} {T : Addr} {x y : V} {d e : D} (hT : H2 T = none) (rx : Rep G H2 as x d) (ry : Rep G H2 as y e) : Rep G (upd H2 T (.tup [x, y])) as (.ref T) (.tup [d, e]) ∧ Same H2 (upd H2 T (.tup [x, y])) := by
  have s : Same H2 (upd H2 T (.tup [x, y])) := Same.upd hT
  exact ⟨.tup (SqT.of upd_same) (.cons (rx.frm (.same s)) (.cons (ry.frm (.same s)) .nil)), s⟩
theorem yld_enum (h : PsL G.K H a xs) (r : RepAll G H as xs ds) (hz : xs.length ≤ sizeLine) : Yld G (Ite G.K a) as H (enumD 0 ds) where
  size := by rw [enumD_length, ← r.length]; exact hz
  item := fun H2 t f i d hd => by
    rw [enumD_get] at hd
    cases q : ds[i]? with
    | none => rw [q] at hd; cases hd
    | some d' =>
      rw [q] at hd
      cases hd
      obtain ⟨x, hx, rx⟩ := r.get q
      have qs := (psL_mono (K := G.K) f h).sq
      refine ⟨⟨xs, x, qs, hx⟩, fun y H3 ⟨T, x', e1, hT, e2, hy⟩ => ?_⟩
      subst e1; subst e2
      have := hy xs qs
      rw [hx] at this
      cases this
      rw [Nat.zero_add]
      exact pair_new hT (.int _) (rx.mono t f (fun _ _ z => z))
  stop := fun H2 t f i hi => ⟨xs, (psL_mono (K := G.K) f h).sq, by rw [enumD_length] at hi; rw [r.length]; exact hi⟩
theorem yld_zipL (h : PsL G.K H a xs) (r : RepAll G H as xs ds) (h' : PsL G.K H b ys) (r' : RepAll G H as ys es) (hz : xs.length ≤ sizeLine) : Yld G (Itz G.K a b) as H (zipD ds es) where
  size := by rw [zipD_length, ← r.length, ← r'.length]; omega
  item := fun H2 t f i z hd => by
    obtain ⟨d, e, h1, h2, rfl⟩ := zipD_get _ _ _ _ hd
    obtain ⟨x, hx, rx⟩ := r.get h1
    obtain ⟨y, hy, ry⟩ := r'.get h2
    have q1 := (psL_mono (K := G.K) f h).sq
    have q2 := (psL_mono (K := G.K) f h').sq
    refine ⟨⟨xs, ys, x, y, q1, q2, hx, hy⟩, fun v H3 ⟨T, x', y', e1, hT, e2, k1, k2⟩ => ?_⟩
    subst e1; subst e2
    have e1 := k1 xs q1
    have e2 := k2 ys q2
    rw [hx] at e1; rw [hy] at e2
    cases e1; cases e2
    exact pair_new hT (rx.mono t f (fun _ _ z => z)) (ry.mono t f (fun _ _ z => z))
  stop := fun H2 t f i hi => ⟨xs, ys, (psL_mono (K := G.K) f h).sq, (psL_mono (K := G.K) f h').sq, by rw [zipD_length, ← r.length, ← r'.length] at hi; omega⟩
theorem yld_zipT (h : SqT G.K H a xs) (r : RepAll G H as xs ds) (h' : SqT G.K H b ys) (r' : RepAll G H as ys es) (hz : xs.length ≤ sizeLine) : Yld G (RZ.ItzT G.K a b) as H (zipD ds es) where
  size := by rw [zipD_length, ← r.length, ← r'.length]; omega
  item := fun H2 t f i z hd => by
    obtain ⟨d, e, h1, h2, rfl⟩ := zipD_get _ _ _ _ hd
    obtain ⟨x, hx, rx⟩ := r.get h1
    obtain ⟨y, hy, ry⟩ := r'.get h2
    have q1 := sqT_mono (K := G.K) t f h
    have q2 := sqT_mono (K := G.K) t f h'
    refine ⟨⟨xs, ys, x, y, q1, q2, hx, hy⟩, fun v H3 ⟨T, x', y', e1, hT, e2, k1, k2⟩ => ?_⟩
    subst e1; subst e2
    have e1 := k1 xs q1
    have e2 := k2 ys q2
    rw [hx] at e1; rw [hy] at e2
    cases e1; cases e2
    exact pair_new hT (rx.mono t f (fun _ _ z => z)) (ry.mono t f (fun _ _ z => z))
  stop := fun H2 t f i hi => ⟨xs, ys, sqT_mono (K := G.K) t f h, sqT_mono (K := G.K) t f h', by rw [zipD_length, ← r.length, ← r'.length] at hi; omega⟩
end
def dEnum (a : DA) : DI := fun ρ Q => a ρ fun xs ρ' => ∃ ds, xs = [.lst ds] ∧ Q (enumD 0 ds) ρ'
theorem di_enum {e : Expr} {da : DA} {p pos tpos : Pos} {elts : List Expr} {kk : Nat} (hg : Gl X "enumerate") (hm : X.mg "enumerate" = none) (ha : DAx X [e] da) (hs : starEach [e] X.env = [(false, eval e X.env)] := by rfl) :
    DIx X (.Tuple elts kk tpos) (.Call (.Name "enumerate" p) [e] [] pos) (dEnum da) :=
  pi_con' (pi_enum hg hm (pa_len ha) hs) fun σ H R ⟨as, ρ, P, Rr, w, k⟩ => ⟨as, ρ, _, Rr, w, fun xs ρ1 as1 vs H1 w1 R1 r1 f1 hlen => by
    obtain ⟨ds, rfl, p⟩ := w1
    cases r1 with
    | cons q qs =>
      cases qs
      cases q with
      | lst h rr => exact ⟨_, _, rfl, h.sq, k _ ρ1 as1 H1 _ p R1 f1 (yld_enum h rr (hlen _ _ (.inl h.sq)))⟩⟩
/-- zip of two lists or two tuples -/
def dZip (a : DA) : DI := fun ρ Q => a ρ fun xs ρ' => match xs with
  | [.lst ds, .lst es] => Q (zipD ds es) ρ'
  | [.tup ds, .tup es] => Q (zipD ds es) ρ'
  | _ => False
theorem di_zip {e e2 : Expr} {da : DA} {p pos tpos : Pos} {elts : List Expr} {kk : Nat} (hg : Gl X "zip") (hm : X.mg "zip" = none) (ha : DAx X [e, e2] da)
    (hs : starEach [e, e2] X.env = (false, eval e X.env) :: starEach [e2] X.env := by rfl) (hpl : (backTo pos (starEach [e2] X.env)).any (·.1) = false := by rfl) :
    DIx X (.Tuple elts kk tpos) (.Call (.Name "zip" p) [e, e2] [] pos) (dZip da) :=
  pi_con' (RZ.pi_zipA hg hm (pa_len ha) hs hpl) fun σ H R ⟨as, ρ, P, Rr, w, k⟩ => ⟨as, ρ, _, Rr, w, fun xs ρ1 as1 vs H1 w1 R1 r1 f1 hlen => by
    split at w1
    · cases r1 with
      | cons q qs =>
        cases qs with
        | cons q2 qs =>
          cases qs
          cases q with
          | lst h rr =>
            cases q2 with
            | lst h2 rr2 => exact ⟨_, _, _, _, rfl, .inl ⟨h.sq, h2.sq, k _ ρ1 as1 H1 _ w1 R1 f1 (yld_zipL h rr h2 rr2 (hlen _ _ (.inl h.sq)))⟩⟩
    · cases r1 with
      | cons q qs =>
        cases qs with
        | cons q2 qs =>
          cases qs
          cases q with
          | tup h rr =>
            cases q2 with
            | tup h2 rr2 => exact ⟨_, _, _, _, rfl, .inr ⟨h, h2, k _ ρ1 as1 H1 _ w1 R1 f1 (yld_zipT h rr h2 rr2 (hlen _ _ (.inr h)))⟩⟩
    · exact w1.elim⟩
end

/-! ### list comprehensions of one clause -/
section
variable {X : Cx}
/-- the body of a clause: items, what is kept -/
def dLc (di : DI) (g : DG) (t : DT) (e : DE) (vs : List Nat) : DE := fun ρ Q => di ρ fun xs ρ1 => ∃ W : Nat → List D → List Cell → Prop, W 0 [] ρ1.st ∧
  (∀ i x acc st, xs[i]? = some x → W i acc st → g x ⟨wipeD ρ1.sl vs, st⟩ fun ρ2 => t ρ2 fun c ρ3 => if c = true then e ρ3 fun y ρ4 => W (i + 1) (acc ++ [y]) ρ4.st else W (i + 1) acc ρ3.st) ∧
  ∀ acc st, W xs.length acc st → Q (.lst acc) ⟨ρ1.sl, st⟩
def dYes : DT := fun ρ Q => Q true ρ
def DTsx (X : Cx) (ifs : List Expr) (t : DT) : Prop := PTs X ifs (liftT (gd X) t)
theorem dts_nil : DTsx X [] dYes := ⟨fun pins s σ H Q I ⟨as, ρ, P, R, w, k⟩ => pts_nil.run pins s σ H Q I (k true ρ as H w R (.refl _ _))⟩
theorem dts_one {c : Expr} {t : DT} (h : DTx X c t) : DTsx X [c] t := pts_one h
theorem lift_lc {G : Gd} {di : DI} {g : DG} {t : DT} {e : DE} {vs : List Nat} {σ : L2.St} {H : Hp} {Q Q' : VK} (hQ : ∀ v H', frzQ Q v H' → Q' v H') (h : liftE G (dLc di g t e vs) σ H Q) :
    tLc (liftI G di) (liftG G vs g) (liftT G t) (liftE G e) vs σ H Q' := by
  obtain ⟨as, ρ, P, R, w, k⟩ := h
  refine ⟨as, ρ, _, R, w, fun xs ρ1 as1 H1 J w1 R1 f1 Y D hD => ?_⟩
  obtain ⟨W, w0, turn, fin⟩ := w1
  have s0 : Same H1 (upd H1 D (.lst [])) := Same.upd hD
  refine ⟨fun i m H' => m = xs.length - i ∧ i ≤ xs.length ∧ ∃ as' acc vacc st, H' D = some (.lst vacc) ∧ RepAll G H' as' vacc acc ∧ acc.length ≤ i ∧ D ∉ as' ∧ RepS G H' as' σ ⟨ρ1.sl, st⟩ ∧ Frm as1 H1 as' H' ∧ W i acc st, ⟨xs.length, by simp, Nat.zero_le _, as1, [], [], ρ1.st, upd_same, .nil, Nat.le_refl _, R1.st.notin hD, R1.same s0, .same s0, w0⟩, ?_⟩
  rintro i m H2 ⟨rfl, hi, as2, acc, vacc, st, hd2, ra2, hl2, nd2, R2, f2, w2⟩
  have hDl : D ∉ as1 := R1.st.notin hD
  by_cases hlt : i < xs.length
  · obtain ⟨go, yl⟩ := Y.item H2 f2.tups f2.frzs i xs[i] (by simp [hlt])
    refine .inr ⟨go, fun H' => ∃ as' acc vacc st, H' D = some (.lst vacc) ∧ RepAll G H' as' vacc acc ∧ acc.length ≤ i + 1 ∧ D ∉ as' ∧ RepS G H' as' σ ⟨ρ1.sl, st⟩ ∧ Frm as1 H1 as' H' ∧ W (i + 1) acc st, fun H' q => ⟨xs.length - (i + 1), by omega, rfl, hlt, q⟩, fun x H3 y => ?_⟩
    obtain ⟨r3, s3⟩ := yl x H3 y
    have f3 : Frm as1 H1 as2 H3 := f2.trans (.same s3)
    -- what stays of the new list
    have stayD : ∀ {as' : List Addr} {H' : Hp}, Frm as2 H3 as' H' → H' D = some (.lst vacc) ∧ D ∉ as' := fun {as' H'} f => ⟨f.keep _ _ (s3 _ _ hd2) nd2, fun hm => by
      obtain ⟨more, e, hn⟩ := f.pre
      rw [e] at hm
      rcases List.mem_append.mp hm with hm | hm
      · exact nd2 hm
      · exact absurd (hn D hm) (by rw [s3 _ _ hd2]; exact fun z => nomatch z)⟩
    have back : ∀ {as' : List Addr} {H' : Hp} {ρ' : DS} {σ' : L2.St}, Frm as2 H3 as' H' → RepS G H' as' σ' ρ' → RepS G H' as' σ ⟨ρ1.sl, ρ'.st⟩ := fun {as' H' ρ' σ'} f R' => ((R2.same s3).store f R'.st)
    refine ⟨as2, ⟨wipeD ρ1.sl vs, st⟩, xs[i], _, (R2.same s3).wipe vs, r3.mono (fun _ _ z => z) (fun _ _ _ z => z) f2.ix, turn i xs[i] acc st (by simp [hlt]) w2, fun ρ4 as4 σ4 H4 w4 R4 f4 e4 => ?_⟩
    refine ⟨by rw [e4]; exact wipe_wipe σ vs, as4, ρ4, _, R4, w4, fun c ρ5 as5 H5 w5 R5 f5 => ?_⟩
    have f25 := f4.trans f5
    cases c with
    | false =>
      rw [if_neg Bool.false_ne_true] at w5
      obtain ⟨h1, h2⟩ := stayD f25
      exact iteF ⟨as5, acc, vacc, _, h1, (ra2.frm (.same s3)).frm f25, by omega, h2, back f25 R5, f3.trans f25, w5⟩
    | true =>
      rw [if_pos rfl] at w5
      refine iteT ⟨as5, ρ5, _, R5, w5, fun y ρ6 as6 v6 H6 w6 R6 r6 f6 => ?_⟩
      have f26 := f25.trans f6
      obtain ⟨h1, h2⟩ := stayD f26
      have hsz := Y.size
      have hvl : vacc.length = acc.length := ra2.length
      refine ⟨vacc, h1, by omega, as6, acc ++ [y], vacc ++ [v6], ρ6.st, upd_same, ?_, by rw [List.length_append, List.length_singleton]; omega, h2, ?_, ?_, w6⟩
      · have g6 : Frm [D] H6 [D] (upd H6 D (.lst (vacc ++ [v6]))) := .cell (List.mem_singleton.mpr rfl) h1 trivial
        have m6 := fun {v d} (r : Rep G H6 as6 v d) => Rep.mono (as' := as6) g6.tups g6.frzs (fun _ _ z => z) r
        have m6' := RepAll.mono (as' := as6) g6.tups g6.frzs (fun _ _ z => z) ((ra2.frm (.same s3)).frm f26)
        exact m6'.append (.cons (m6 r6) .nil)
      · have R7 := back f26 R6
        have g6 : Frm [D] H6 [D] (upd H6 D (.lst (vacc ++ [v6]))) := .cell (List.mem_singleton.mpr rfl) h1 trivial
        refine ⟨R7.len, fun i d hd => ?_, ⟨R7.st.len, R7.st.nd, fun j c a hj ha => ?_⟩⟩
        · obtain ⟨v, e, r⟩ := R7.slot i d hd
          exact ⟨v, e, r.mono g6.tups g6.frzs (fun _ _ z => z)⟩
        · have hne : a ≠ D := fun z => h2 (by rw [← z]; exact List.mem_of_getElem? ha)
          have q := R7.st.ok j c a hj ha
          exact q.up (fun o e => by rw [upd_ne hne]; exact e) fun v d r => r.mono g6.tups g6.frzs (fun _ _ z => z)
      · have f16 := f3.trans f26
        have g6 : Frm [D] H6 [D] (upd H6 D (.lst (vacc ++ [v6]))) := .cell (List.mem_singleton.mpr rfl) h1 trivial
        refine ⟨f16.pre, fun b xs hb => g6.tups b xs (f16.tups b xs hb), fun b o u hb => g6.frzs b o u (f16.frzs b o u hb), fun b o hb hn => ?_, fun b hb => g6.live b (f16.live b hb)⟩
        have hne : b ≠ D := fun z => by rw [z, hD] at hb; cases hb
        rw [upd_ne hne]
        exact f16.keep b o hb hn
  · have e : i = xs.length := by omega
    subst e
    refine .inl ⟨Y.stop H2 f2.tups f2.frzs _ (Nat.le_refl _), hQ _ _ ⟨D, vacc, rfl, hd2, fun o => ?_⟩⟩
    have g2 : Frm [D] H2 [D] (upd H2 D (.frz o (.lst vacc))) := .cell (List.mem_singleton.mpr rfl) hd2 trivial
    have fz : Frm as1 H1 as2 (upd H2 D (.frz o (.lst vacc))) := by
      refine ⟨f2.pre, fun b xs hb => g2.tups b xs (f2.tups b xs hb), fun b o u hb => g2.frzs b o u (f2.frzs b o u hb), fun b o hb hn => ?_, fun b hb => g2.live b (f2.live b hb)⟩
      have hne : b ≠ D := fun z => by rw [z, hD] at hb; cases hb
      rw [upd_ne hne]
      exact f2.keep b o hb hn
    refine k _ _ as2 _ _ (fin acc st w2) ?_ (.lst ⟨o, upd_same⟩ (ra2.mono g2.tups g2.frzs (fun _ _ z => z))) (f1.trans fz)
    refine ⟨R2.len, fun i d hd => ?_, ⟨R2.st.len, R2.st.nd, fun j c a hj ha => ?_⟩⟩
    · obtain ⟨v, e, r⟩ := R2.slot i d hd
      exact ⟨v, e, r.mono g2.tups g2.frzs (fun _ _ z => z)⟩
    · have hne : a ≠ D := fun z => nd2 (by rw [← z]; exact List.mem_of_getElem? ha)
      have q := R2.st.ok j c a hj ha
      exact q.up (fun o e => by rw [upd_ne hne]; exact e) fun v d r => r.mono g2.tups g2.frzs (fun _ _ z => z)
end
end BB
set_option maxRecDepth 100000
/-! The data layer, 6: comprehensions as expressions and statements; the body of a def; cells. -/
namespace BB
open PySem PySem.Spec PyProof.Rows L2

section
variable {X : Cx}
theorem de_lc {elt tg iter : Expr} {ifs : List Expr} {scope : Scope} {own : List (Str × Nat)} {pos : Pos} {di : DI} {g : DG} {t : DT} {e : DE} (hc : X.calm = true) (hN : X.N.Nodup) (hi : DIx X tg iter di) (ok : BlkOk X.N X.env.scope scope own)
    (hg : ∀ (s : Shared) (H : Hp) (C : Addr) (cl : List (Str × Addr)) (fp : List Addr), DGx (X.blk s H scope (compEnvC scope cl C X.env) fp) (own.map (·.2)) tg g)
    (ht : ∀ (s : Shared) (H : Hp) (C : Addr) (cl : List (Str × Addr)) (fp : List Addr), DTsx (X.blk s H scope (compEnvC scope cl C X.env) fp) ifs t)
    (he : ∀ (s : Shared) (H : Hp) (C : Addr) (cl : List (Str × Addr)) (fp : List Addr), DEx (X.blk s H scope (compEnvC scope cl C X.env) fp) elt e) (hs : ∀ x, foldedSetIterable iter X.env x = pure x := by intro _; rfl) :
    DEx X (.ListComp elt [⟨tg, iter, ifs, 0⟩] scope pos) (dLc di g t e (own.map (·.2))) :=
  pe_con' (pe_frz (pe_lc (wi := liftI (gd X) di) (g := liftG (gd X) (own.map fun p : Str × Nat => p.2) g) (tt := liftT (gd X) t) (te := liftE (gd X) e) hc hN hi ok hg ht he hs)) fun σ H Q h => lift_lc (fun _ _ z => z) h
theorem ps_frz {st : Stmt} {t : TS} (h : PS X st t) : PS X st (fun E σ H => t { E with nx := fun σ' H' => ∃ a xs, H' a = some (.lst xs) ∧ ∀ o, E.nx σ' (upd H' a (.frz o (.lst xs))) } σ H) := ⟨fun pins s σ H E I q =>
  thn (h.run pins s σ H _ I q) fun f s' z => by
    cases f with
    | next =>
      obtain ⟨σ', H', I', a, xs, e, k⟩ := z
      obtain ⟨od, I2⟩ := I'.lock e trivial
      exact ⟨σ', _, I2, k od⟩
    | brk => exact z
    | cont => exact z
    | ret u => exact z⟩
theorem dp_setLc {i : Nat} {y : Str} {py : Pos} {elt tg iter : Expr} {ifs : List Expr} {scope : Scope} {own : List (Str × Nat)} {pos spos : Pos} {di : DI} {g : DG} {t : DT} {e : DE} (hc : X.calm = true) (hN : X.N.Nodup) (hy : X.N[i]? = some y) (hyl : X.env.scope.names.lookup y = some .local)
    (hsw : swapsWith (.ListComp elt [⟨tg, iter, ifs, 0⟩] scope pos) (some (.Name y py)) spos.line X.env = pure true) (hi : DIx X tg iter di) (ok : BlkOk X.N X.env.scope scope own)
    (hg : ∀ (s : Shared) (H : Hp) (C : Addr) (cl : List (Str × Addr)) (fp : List Addr), DGx (X.blk s H scope (compEnvC scope cl C X.env) fp) (own.map (·.2)) tg g)
    (ht : ∀ (s : Shared) (H : Hp) (C : Addr) (cl : List (Str × Addr)) (fp : List Addr), DTsx (X.blk s H scope (compEnvC scope cl C X.env) fp) ifs t)
    (he : ∀ (s : Shared) (H : Hp) (C : Addr) (cl : List (Str × Addr)) (fp : List Addr), DEx (X.blk s H scope (compEnvC scope cl C X.env) fp) elt e) (hs : ∀ x, foldedSetIterable iter X.env x = pure x := by intro _; rfl) :
    DPx X (.Assign [.Name y py] (.ListComp elt [⟨tg, iter, ifs, 0⟩] scope pos) spos) (dAsg (dLc di g t e (own.map (·.2))) (gSet i)) :=
  ps_con' (ps_frz (ps_setLc (wi := liftI (gd X) di) (g := liftG (gd X) (own.map fun p : Str × Nat => p.2) g) (tt := liftT (gd X) t) (te := liftE (gd X) e) hc hN hy hyl hsw hi ok hg ht he hs)) fun E σ H ⟨as, ρ, P, R, w, k⟩ => by
    refine lift_lc (Q := fun v H' => E.nx (σ.set i (some v)) H') (fun v H' ⟨a, xs, ev, eh, z⟩ => ⟨a, xs, eh, z⟩) ⟨as, ρ, _, R, w, fun x ρ1 as1 v1 H1 w1 R1 r1 f1 => ?_⟩
    exact k.nx _ as1 _ H1 w1 (R1.setSlot i r1) f1

/-! ### the body of a def -/
mutual
def bel (n : Nat) : D → Prop
  | .tup ds => bels n ds
  | .lst ds => bels n ds
  | .dct ks vs => bels n ks ∧ bels n vs
  | .dcs ks vs => bels n ks ∧ bels n vs
  | .ptr j => j < n
  | .non => True
  | .bl _ => True
  | .int _ => True
  | .str _ => True
def bels (n : Nat) : List D → Prop
  | [] => True
  | d :: ds => bel n d ∧ bels n ds
end
theorem bels_iff (n : Nat) : ∀ ds : List D, bels n ds ↔ ∀ d ∈ ds, bel n d
  | [] => by simp [bels]
  | d :: ds => by simp [bels, bels_iff n ds]
def belC (n : Nat) : Cell → Prop
  | .lst ds => bels n ds
  | .dct ks vs => bels n ks ∧ bels n vs
  | .dcs ks vs => bels n ks ∧ bels n vs
  | .dead => True
def WfS (st : List Cell) : Prop := ∀ c ∈ st, belC st.length c
theorem keyD_bel {n : Nat} {k : D} {x : Key} (h : keyD k = some x) : bel n k := by
  cases k <;> first | trivial | cases h
section
variable {G : Gd} {H : Hp} {as : List Addr}
mutual
theorem Rep.bel : ∀ {v : V} {d : D}, Rep G H as v d → BB.bel as.length d
  | _, _, .non => trivial
  | _, _, .bl b => trivial
  | _, _, .int i => trivial
  | _, _, .str x => trivial
  | _, _, .tup h r => by rw [BB.bel]; exact RepAll.bel r
  | _, _, .lst h r => by rw [BB.bel]; exact RepAll.bel r
  | _, _, .dct h m z r => by rw [BB.bel]; exact RepEnts.bel r
  | _, _, .dcs h r => by rw [BB.bel]; exact RepKV.bel r
  | _, _, .ptr h => by rw [BB.bel]; exact (List.getElem?_eq_some_iff.mp h).1
theorem RepAll.bel : ∀ {v : List V} {d : List D}, RepAll G H as v d → bels as.length d
  | _, _, .nil => trivial
  | _, _, .cons h r => by rw [bels]; exact ⟨Rep.bel h, RepAll.bel r⟩
theorem RepEnts.bel : ∀ {k d : List D} {xs : Ents}, RepEnts G H as k d xs → bels as.length k ∧ bels as.length d
  | _, _, _, .nil => ⟨trivial, trivial⟩
  | _, _, _, .cons h1 h2 h3 h4 h5 r => by
    rw [bels, bels]
    obtain ⟨q1, q2⟩ := RepEnts.bel r
    exact ⟨⟨Rep.bel h3, q1⟩, ⟨Rep.bel h5, q2⟩⟩
theorem RepKV.bel : ∀ {k d : List D} {xs : List (Key × V)}, RepKV G H as k d xs → bels as.length k ∧ bels as.length d
  | _, _, _, .nil => ⟨trivial, trivial⟩
  | _, _, _, .cons h1 h5 r => by
    rw [bels, bels]
    obtain ⟨q1, q2⟩ := RepKV.bel r
    exact ⟨⟨keyD_bel h1, q1⟩, ⟨Rep.bel h5, q2⟩⟩
end
theorem RepSt.wf {st : List Cell} (R : RepSt G H as st) : WfS st := fun c hc => by
  obtain ⟨j, hj, e⟩ := List.getElem_of_mem hc
  have hj2 : j < as.length := by rw [R.len]; exact hj
  have q := R.ok j c as[j] (by simp [hj, e]) (by simp [hj2])
  rw [← R.len]
  cases c with
  | lst ds => obtain ⟨xs, _, r⟩ := q; exact r.bel
  | dct ks vs => obtain ⟨xs, _, _, _, r⟩ := q; exact r.bel
  | dcs ks vs => obtain ⟨xs, _, r⟩ := q; exact r.bel
  | dead => trivial
mutual
theorem Rep.cut {m : Nat} : ∀ {v : V} {d : D}, Rep G H as v d → BB.bel m d → Rep G H (as.take m) v d
  | _, _, .non, _ => .non
  | _, _, .bl b, _ => .bl b
  | _, _, .int i, _ => .int i
  | _, _, .str x, _ => .str x
  | _, _, .tup h r, q => by rw [BB.bel] at q; exact .tup h (RepAll.cut r q)
  | _, _, .lst h r, q => by rw [BB.bel] at q; exact .lst h (RepAll.cut r q)
  | _, _, .dct h m z r, q => by rw [BB.bel] at q; exact .dct h m z (RepEnts.cut r q.1 q.2)
  | _, _, .dcs h r, q => by rw [BB.bel] at q; exact .dcs h (RepKV.cut r q.2)
  | _, _, .ptr h, q => by
    rw [BB.bel] at q
    exact .ptr (by rw [List.getElem?_take_of_lt q]; exact h)
theorem RepAll.cut {m : Nat} : ∀ {v : List V} {d : List D}, RepAll G H as v d → bels m d → RepAll G H (as.take m) v d
  | _, _, .nil, _ => .nil
  | _, _, .cons h r, q => by rw [bels] at q; exact .cons (Rep.cut h q.1) (RepAll.cut r q.2)
theorem RepEnts.cut {m : Nat} : ∀ {k d : List D} {xs : Ents}, RepEnts G H as k d xs → bels m k → bels m d → RepEnts G H (as.take m) k d xs
  | _, _, _, .nil, _, _ => .nil
  | _, _, _, .cons h1 h2 h3 h4 h5 r, q, q' => by
    rw [bels] at q q'
    exact .cons h1 h2 (Rep.cut h3 q.1) h4 (Rep.cut h5 q'.1) (RepEnts.cut r q.2 q'.2)
theorem RepKV.cut {m : Nat} : ∀ {k d : List D} {xs : List (Key × V)}, RepKV G H as k d xs → bels m d → RepKV G H (as.take m) k d xs
  | _, _, _, .nil, _ => .nil
  | _, _, _, .cons h1 h5 r, q' => by
    rw [bels] at q'
    exact .cons h1 (Rep.cut h5 q'.1) (RepKV.cut r q'.2)
end
theorem RepSt.cut {m : Nat} {st : List Cell} (R : RepSt G H as st) (hb : ∀ c ∈ st.take m, belC m c) : RepSt G H (as.take m) (st.take m) := by
  refine ⟨by rw [List.length_take, List.length_take, R.len], R.nd.sublist (List.take_sublist _ _), fun j c a h1 h2 => ?_⟩
  have hj : j < m := by
    have := (List.getElem?_eq_some_iff.mp h1).1
    rw [List.length_take] at this
    omega
  have hm := hb c (List.mem_of_getElem? h1)
  rw [List.getElem?_take_of_lt hj] at h1 h2
  have q := R.ok j c a h1 h2
  cases c with
  | lst ds => obtain ⟨xs, e, r⟩ := q; exact ⟨xs, e, r.cut hm⟩
  | dct ks vs => obtain ⟨xs, e, z1, z2, r⟩ := q; exact ⟨xs, e, z1, z2, r.cut hm.1 hm.2⟩
  | dcs ks vs => obtain ⟨xs, e, r⟩ := q; exact ⟨xs, e, r.cut hm.2⟩
  | dead => exact q
theorem Frm.cut {as' : List Addr} {H' : Hp} {m : Nat} (f : Frm as H as' H') (hm : as.length ≤ m) : Frm as H (as'.take m) H' := by
  obtain ⟨more, e, hn⟩ := f.pre
  refine ⟨⟨more.take (m - as.length), ?_, fun a ha => hn a (List.mem_of_mem_take ha)⟩, f.tups, f.frzs, f.keep, f.live⟩
  rw [e, List.take_append, List.take_of_length_le hm]
end
/-- what a return leaves: cells that were made within and that nothing left speaks of are forgotten -/
def retOk (n : Nat) (P : D → List Cell → Prop) (x : D) (st : List Cell) : Prop := ∃ st' more, st = st' ++ more ∧ n ≤ st'.length ∧ bel st'.length x ∧ WfS st' ∧ P x st'
def endsOf (n : Nat) (P : D → List Cell → Prop) : DEnds := ⟨fun ρ => retOk n P .non ρ.st, retOk n P, fun _ => False, fun _ => False⟩
def startD (m : Nat) (ds : List D) : List (Option D) := ds.map some ++ List.replicate (m - ds.length) none
theorem rep_start {G : Gd} {H : Hp} {as : List Addr} {N : List Str} {vs : List V} {ds : List D} (r : RepAll G H as vs ds) : (L2.start N vs).length = (startD N.length ds).length ∧ ∀ (i : Nat) (d : D), (startD N.length ds)[i]? = some (some d) → ∃ v, (L2.start N vs)[i]? = some (some v) ∧ Rep G H as v d := by
  have hl := r.length
  refine ⟨by unfold L2.start startD; simp [hl], fun i d h => ?_⟩
  unfold startD at h
  unfold L2.start
  by_cases hi : i < ds.length
  · rw [List.getElem?_append_left (by simpa using hi), List.getElem?_map] at h
    rw [List.getElem?_append_left (by rw [List.length_map, hl]; exact hi), List.getElem?_map]
    cases q : ds[i]? with
    | none => rw [q] at h; cases h
    | some d' =>
      rw [q] at h; cases h
      obtain ⟨v, e, rv⟩ := r.get q
      exact ⟨v, by rw [e]; rfl, rv⟩
  · rw [List.getElem?_append_right (by simpa using hi), List.getElem?_replicate] at h
    split at h <;> cases h
theorem ret_lift {G : Gd} {H H' : Hp} {as as' : List Addr} {st st' : List Cell} {P : D → List Cell → Prop} {x : D} {v : V} {Q : VK} (R0 : RepSt G H as st) (p : retOk st.length P x st') (R : RepSt G H' as' st') (r : Rep G H' as' v x) (f : Frm as H as' H')
    (k : ∀ z st' as' v H', P z st' → RepSt G H' as' st' → Rep G H' as' v z → Frm as H as' H' → Q v H') : Q v H' := by
  obtain ⟨s1, more, e, hn, hb, hw, p⟩ := p
  have ht : st'.take s1.length = s1 := by rw [e, List.take_left]
  have R1 : RepSt G H' (as'.take s1.length) s1 := by
    have := R.cut (m := s1.length) (by rw [ht]; exact hw)
    rw [ht] at this
    exact this
  exact k x s1 _ v H' p R1 (r.cut hb) (f.cut (by rw [R0.len]; exact hn))
/-- THE RULE for a def: its body over data, what the body promises -/
theorem has_of {P : Program} {w : World} {K : PySem.W.Frag} {mg : Str → Option Value} {base : Heap} {x qual : Str} {st : Stmt} {f : Addr} {fd : FuncData} {N ps : List Str} {k n : Nat} {F : FS} (hF : Fun K x qual st f fd) (S : FnScope N ps (defScope st)) (hn : ps.length = n) (hmg : mg x = some (.ref f)) (hb : Binds K fd ps []) (d : DP)
    (hbody : ∀ (cdv : Value) (A : Around) (outer : List Env) (s : Shared) (H : Hp) (E : XK), Room k (A.deeper (envOfC qual (defScope st) s.heap.objs.size f cdv)) → DPs (cxOf CX0 P w K mg base N qual (defScope st) f cdv A outer s H E).nox (defBody st) d)
    (spec : ∀ ds st' Q, ds.length = n → WfS st' → F ds st' Q → d (endsOf st'.length Q) ⟨startD N.length ds, st'⟩) : Has P w K mg base x (k + 1) n F := by
  subst hn
  refine ⟨f, fd, ps, rfl, hF.ok S (fun vs H Q E ⟨as, st', ds, Q', hl, R, r, _⟩ => r.length.trans hl) (fun cdv A outer s H vs Q E hr h => ?_), hmg, hF.kp, hb⟩
  obtain ⟨as, st', ds, Q', hl, R, r, hp, kk⟩ := h
  refine ⟨_, hbody cdv A outer s H E hr, as, ⟨startD N.length ds, st'⟩, endsOf st'.length Q', ⟨(rep_start r).1, (rep_start r).2, R⟩, spec ds st' Q' hl R.wf hp, ?_⟩
  refine ⟨fun ρ' as' σ' H' p R' fr => ?_, fun z st2 as' v H' p R' rv fr => ret_lift R p R' rv fr kk, fun _ _ _ _ p => p.elim, fun _ _ _ _ p => p.elim⟩
  exact ret_lift R p R'.st .non fr kk

/-! ### cells -/
/-- the value that a name holds is frozen: the list of a cell -/
def dFrz (e : DE) : DE := fun ρ Q => e ρ fun x ρ' => ∃ j, x = .ptr j ∧ match ρ'.st[j]? with
  | some (.lst ds) => Q (.lst ds) ⟨ρ'.sl, ρ'.st.set j .dead⟩
  | some (.dct ks vs) => Q (.dct ks vs) ⟨ρ'.sl, ρ'.st.set j .dead⟩
  | some (.dcs ks vs) => Q (.dcs ks vs) ⟨ρ'.sl, ρ'.st.set j .dead⟩
  | _ => False
/-- the heap may lock what stands at an address -/
theorem EP.lock {pins : List (Addr × Obj)} {σ : L2.St} {Q : VK} {u : Value} {s' : Shared} (h : EP X pins σ (fun v H' => ∃ a o, v = .ref a ∧ H' a = some o ∧ Mut (some o) ∧ ∀ od, Q v (upd H' a (.frz od o))) u s') : EP X pins σ Q u s' := by
  obtain ⟨v, H', I, r, a, o, rfl, e, mu, k⟩ := h
  obtain ⟨od, I'⟩ := I.lock e mu
  exact ⟨_, _, I', r, k od⟩
theorem RepS.dead {G : Gd} {H : Hp} {as : List Addr} {σ : L2.St} {ρ : DS} {j : Nat} {a : Addr} {o u : HO} (R : RepS G H as σ ρ) (ha : as[j]? = some a) (e : H a = some o) (mu : Mut (some o)) : RepS G (upd H a u) as σ ⟨ρ.sl, ρ.st.set j .dead⟩ :=
  R.write ha e mu (c' := .dead) (by show upd H a u a ≠ none; rw [upd_same]; exact fun z => nomatch z)
theorem de_frz {e : Expr} {d : DE} (h : DEx X e d) : DEx X e (dFrz d) := ⟨fun pins s σ H Q I ⟨as, ρ, P, R, w, k⟩ => by
  refine thn (PE.run h pins s σ H (fun v H' => ∃ a o, v = .ref a ∧ H' a = some o ∧ Mut (some o) ∧ ∀ od, Q v (upd H' a (.frz od o))) I ⟨as, ρ, _, R, w, fun x ρ1 as1 v1 H1 w1 R1 r1 f1 => ?_⟩) fun _ _ z => EP.lock z
  obtain ⟨j, rfl, w1⟩ := w1
  cases r1 with
  | ptr ha =>
    rename_i a
    cases q : ρ1.st[j]? with
    | none => rw [q] at w1; exact w1.elim
    | some c =>
      rw [q] at w1
      have ok := R1.st.ok j c a q ha
      cases c with
      | dead => exact w1.elim
      | lst ds =>
        obtain ⟨xs, e, r⟩ := ok
        refine ⟨a, _, rfl, e, trivial, fun od => ?_⟩
        have fr : Frm as1 H1 as1 (upd H1 a (.frz od (.lst xs))) := .cell (List.mem_of_getElem? ha) e trivial
        exact k _ _ as1 _ _ w1 (R1.dead ha e trivial) (.lst ⟨od, upd_same⟩ (r.frm fr)) (f1.trans fr)
      | dct ks vs =>
        obtain ⟨xs, e, m, z, r⟩ := ok
        refine ⟨a, _, rfl, e, trivial, fun od => ?_⟩
        have fr : Frm as1 H1 as1 (upd H1 a (.frz od (dHO (gd X) a xs))) := .cell (List.mem_of_getElem? ha) e trivial
        exact k _ _ as1 _ _ w1 (R1.dead ha e trivial) (.dct upd_same m z (r.frm fr)) (f1.trans fr)
      | dcs ks vs =>
        obtain ⟨xs, e, r⟩ := ok
        refine ⟨a, _, rfl, e, trivial, fun od => ?_⟩
        have fr : Frm as1 H1 as1 (upd H1 a (.frz od (.dK xs))) := .cell (List.mem_of_getElem? ha) e trivial
        exact k _ _ as1 _ _ w1 (R1.dead ha e trivial) (.dcs upd_same (r.frm fr)) (f1.trans fr)⟩
end
end BB
set_option maxRecDepth 100000
/-! The data layer, 7: methods of lists, stores to lists, built-in functions. -/
namespace BB
open PySem PySem.Spec PyProof.Rows L2

section
variable {X : Cx}
/-! ### methods by values -/
abbrev WPM := D → List D → List Cell → (D → List Cell → Prop) → Prop
def liftM (G : Gd) (g : WPM) : V → List V → Hp → VK → Prop := fun x xs H Q => ∃ as st dx ds P, RepSt G H as st ∧ Rep G H as x dx ∧ RepAll G H as xs ds ∧ g dx ds st P ∧
  ∀ z st' as' v H', P z st' → RepSt G H' as' st' → Rep G H' as' v z → Frm as H as' H' → Q v H'
def isL (st : List Cell) (x : D) : Prop := ∃ ds, vw st x = .lst ds
/-- o.m(..) of a list -/
def dBm (g : WPM) (a : DE) (args : DA) : DE := fun ρ Q => a ρ fun x ρ1 => isL ρ1.st x ∧ args ρ1 fun xs ρ2 => g x xs ρ2.st fun z st => Q z ⟨ρ2.sl, st⟩
theorem mtR_con {id : String} {r r' : V → List V → Hp → VK → Prop} (h : MtR X id r) (c : ∀ x xs H Q, r' x xs H Q → r x xs H Q) : MtR X id r' := fun pins s σ H x xs v us Q I rx rv q => h pins s σ H x xs v us Q I rx rv (c _ _ _ _ q)
theorem lift_bm {G : Gd} {g : WPM} {d : DE} {da : DA} {σ : L2.St} {H : Hp} {Q : VK} (h : liftE G (dBm g d da) σ H Q) : tBM G.K "list" (liftM G g) (liftE G d) (liftA G da) σ H Q := by
  obtain ⟨as, ρ, P, R, w, k⟩ := h
  refine ⟨as, ρ, _, R, w, fun x ρ1 as1 v1 H1 w1 R1 r1 f1 => ?_⟩
  obtain ⟨⟨es, e⟩, w1⟩ := w1
  refine ⟨?_, as1, ρ1, _, R1, w1, fun xs ρ2 as2 vs H2 w2 R2 r2 f2 => ?_⟩
  · obtain ⟨a, ys, rfl, hq, _⟩ := rep_list R1.st r1 e
    exact Or.inl ⟨rfl, _, hq⟩
  · exact ⟨as2, ρ2.st, x, xs, _, R2.st, r1.frm f2, r2, w2, fun z st' as' v H' pz R' r f => k z _ as' v H' pz (R2.store f R') r ((f1.trans f2).trans f)⟩
theorem de_bm {o e : Expr} {es : List Expr} {d : DE} {da : DA} {name : Str} {apos cpos : Pos} {id : String} {g : WPM} (slot : Slot "list" name id) (hty : typeOf (.builtin id) = pure (.type "method_descriptor")) (hm : MtR X id (liftM (gd X) g)) (ho : DEx X o d) (ha : DAx X (e :: es) da)
    (hbase : attributeBase o name X.env (eval o X.env) = eval o X.env := by rfl)
    (hfew : ((backTo cpos (starEach (e :: es) X.env)).all (fun x => !x.1) && (backToKw cpos (keywordEach [] X.env)).all (fun x => x.1.isSome)
      && decide ((e :: es).length + ([] : List Keyword).length + (if ([] : List Keyword).isEmpty then 0 else 1) < 30)) = true := by rfl)
    (hline : (apos.endLine == cpos.line) = true := by rfl) (hs : starEach (e :: es) X.env = (false, eval e X.env) :: starEach es X.env := by rfl) (hplain : (backTo cpos (starEach es X.env)).any (·.1) = false := by rfl) :
    DEx X (.Call (.Attribute o name apos) (e :: es) [] cpos) (dBm g d da) :=
  pe_con' (pe_bm PySem.F.plainAttrs_list slot hty hm ho ha hbase hfew hline hs hplain) fun σ H Q h => lift_bm h
/-- a cell's list is changed -/
theorem cellL {G : Gd} {H : Hp} {as : List Addr} {st : List Cell} (R : RepSt G H as st) {x : V} {j : Nat} {es : List D} (r : Rep G H as x (.ptr j)) (e : st[j]? = some (.lst es)) :
    ∃ a xs, x = .ref a ∧ H a = some (.lst xs) ∧ RepAll G H as xs es ∧ ∀ (ys : List V) (ds : List D), (∀ H', (∀ v d, Rep G H as v d → Rep G H' as v d) → RepAll G H' as ys ds) → RepSt G (upd H a (.lst ys)) as (st.set j (.lst ds)) ∧ Frm as H as (upd H a (.lst ys)) ∧ ∀ v d, Rep G H as v d → Rep G (upd H a (.lst ys)) as v d := by
  cases r with
  | ptr ha =>
    rename_i a
    obtain ⟨xs, e1, e2⟩ := R.ok j _ a e ha
    refine ⟨a, xs, rfl, e1, e2, fun ys ds hys => ?_⟩
    have fr : Frm as H as (upd H a (.lst ys)) := .cell (List.mem_of_getElem? ha) e1 trivial
    have up : ∀ v d, Rep G H as v d → Rep G (upd H a (.lst ys)) as v d := fun v d r => r.frm fr
    exact ⟨R.write ha e1 trivial ⟨ys, upd_same, hys _ up⟩, fr, up⟩
theorem repAll_up {G : Gd} {H H' : Hp} {as : List Addr} (up : ∀ v d, Rep G H as v d → Rep G H' as v d) : ∀ {vs : List V} {ds : List D}, RepAll G H as vs ds → RepAll G H' as vs ds
  | _, _, .nil => .nil
  | _, _, .cons h r => .cons (up _ _ h) (repAll_up up r)
/-- xs.append(y) -/
def wApp : WPM := fun x ds st P => ∃ j es y, x = .ptr j ∧ ds = [y] ∧ st[j]? = some (.lst es) ∧ es.length < sizeLine ∧ P .non (st.set j (.lst (es ++ [y])))
theorem rm_app : MtR X "list.append" (liftM (gd X) wApp) := mtR_con mt_append fun x xs H Q ⟨as, st, dx, ds, P, R, rx, rs, ⟨j, es, y, ex, ed, e, hz, p⟩, k⟩ => by
  subst ex; subst ed
  obtain ⟨a, vs, rfl, h1, h2, h3⟩ := cellL R rx e
  cases rs with
  | @cons v _ _ _ r rr =>
    cases rr
    obtain ⟨R', f', up⟩ := h3 (vs ++ [v]) (es ++ [y]) fun H' up => (repAll_up up h2).append (.cons (up _ _ r) .nil)
    exact ⟨a, vs, v, rfl, rfl, h1, by rw [h2.length]; exact hz, k _ _ as _ _ p R' .non f'⟩
/-- xs.insert(i, y) -/
def wIns : WPM := fun x ds st P => ∃ j es i y, x = .ptr j ∧ ds = [.int i, y] ∧ st[j]? = some (.lst es) ∧ es.length < sizeLine ∧ 0 ≤ i ∧ i < 2 ^ 63 ∧ P .non (st.set j (.lst (es.take i.toNat ++ [y] ++ es.drop i.toNat)))
theorem rm_ins : MtR X "list.insert" (liftM (gd X) wIns) := mtR_con mt_insert fun x xs H Q ⟨as, st, dx, ds, P, R, rx, rs, ⟨j, es, i, y, ex, ed, e, hz, h0, hi, p⟩, k⟩ => by
  subst ex; subst ed
  obtain ⟨a, vs, rfl, h1, h2, h3⟩ := cellL R rx e
  cases rs with
  | cons ri rr =>
    cases rr with
    | @cons v _ _ _ r rr =>
      cases rr
      obtain ⟨R', f', up⟩ := h3 (vs.take i.toNat ++ [v] ++ vs.drop i.toNat) (es.take i.toNat ++ [y] ++ es.drop i.toNat) fun H' up => (((repAll_up up h2).take _).append (.cons (up _ _ r) .nil)).append ((repAll_up up h2).drop _)
      exact ⟨a, vs, i, v, rfl, by rw [rep_int ri], h1, by rw [h2.length]; exact hz, h0, hi, k _ _ as _ _ p R' .non f'⟩
/-- xs.pop(0) -/
def wPop0 : WPM := fun x ds st P => ∃ j y es, x = .ptr j ∧ ds = [.int 0] ∧ st[j]? = some (.lst (y :: es)) ∧ P y (st.set j (.lst es))
theorem rm_pop0 : MtR X "list.pop" (liftM (gd X) wPop0) := mtR_con mt_popAt fun x xs H Q ⟨as, st, dx, ds, P, R, rx, rs, ⟨j, y, es, ex, ed, e, p⟩, k⟩ => by
  subst ex; subst ed
  obtain ⟨a, vs, rfl, h1, h2, h3⟩ := cellL R rx e
  cases rs with
  | cons ri rr =>
    cases rr
    cases h2 with
    | @cons v vs _ _ r rr =>
      obtain ⟨R', f', up⟩ := h3 vs es fun H' up => repAll_up up rr
      refine ⟨a, v :: vs, 0, 0, v, rfl, by rw [rep_int ri], h1, by decide, by decide, ?_, rfl, k _ _ as _ _ p R' (up _ _ r) f'⟩
      exact (ixN_seq (n := (v :: vs).length) (i := 0) (j := 0) (by simp [ixN])).1
/-- xs.extend(ys), ys read as a list -/
def rExtR : V → List V → Hp → VK → Prop := fun x vs H Q => ∃ l b xs zs, x = .ref l ∧ vs = [.ref b] ∧ H l = some (.lst xs) ∧ Rd H b (.lst zs) ∧ xs.length + zs.length ≤ sizeLine ∧ Q .non (upd H l (.lst (xs ++ zs)))
theorem mt_extR : MtR X "list.extend" rExtR := by
  intro pins s σ H x vs v us Q I rx rv h
  obtain ⟨l, b, xs, zs, rfl, rfl, hH, hB, hz, q⟩ := h
  cases rx
  obtain ⟨u, rfl, ru⟩ := rv.one
  cases ru
  obtain ⟨z, its, n, r, hl, e⟩ := I.lstM hH
  obtain ⟨z2, its2, n2, r2, hl2, e2⟩ := Inv_rdL I hB
  have hsz : its.toArray.size + its2.toArray.size ≤ sizeLine := by rw [List.size_toArray, List.size_toArray]; omega
  have hlong : ¬ (!its.toArray.isEmpty && Builtin.List.listTooLong (its.toArray.size + its2.toArray.size)) = true := by
    rw [notLongL hsz, Bool.and_false]
    exact Bool.false_ne_true
  refine call_meets PySem.F.slot_list_extend ⟨_, e, rfl⟩ PySem.F.entry_list_extend (PySem.F.args_list_extend_2 _ _)
    (AutoSeq1.list_extend_list_list_0 l its.toArray n b its2.toArray n2 hlong (by rw [List.size_toArray]; omega) (by omega)) ⟨e, e2, ?_⟩
  refine ⟨.non, _, I.lset (its' := its ++ its2) hH e (by simp) (r.append r2) ?_, rfl, q⟩
  rw [List.length_append]
  omega
def wExt : WPM := fun x ds st P => ∃ j es y fs, x = .ptr j ∧ ds = [y] ∧ st[j]? = some (.lst es) ∧ vw st y = .lst fs ∧ es.length + fs.length ≤ sizeLine ∧ P .non (st.set j (.lst (es ++ fs)))
theorem rm_ext : MtR X "list.extend" (liftM (gd X) wExt) := mtR_con mt_extR fun x xs H Q ⟨as, st, dx, ds, P, R, rx, rs, ⟨j, es, y, fs, ex, ed, e, ey, hz, p⟩, k⟩ => by
  subst ex; subst ed
  obtain ⟨a, vs, rfl, h1, h2, h3⟩ := cellL R rx e
  cases rs with
  | cons r rr =>
    cases rr
    obtain ⟨b, us, rfl, g1, g2⟩ := rep_listR R r ey
    obtain ⟨R', f', up⟩ := h3 (vs ++ us) (es ++ fs) fun H' up => (repAll_up up h2).append (repAll_up up g2)
    exact ⟨a, b, vs, us, rfl, rfl, h1, g1, by rw [h2.length, g2.length]; exact hz, k _ _ as _ _ p R' .non f'⟩
/-- xs.index(y): the first place -/
def idxD (ds : List D) (y : D) : Option Nat := ds.findIdx? fun z => deq z y
def wIdx : WPM := fun x ds st P => ∃ es y j, vw st x = .lst es ∧ ds = [y] ∧ sh 64 (.lst es) ∧ sh 64 (vw st y) ∧ idxD es (vw st y) = some j ∧ P (.int (j : Nat)) st
theorem rm_idx (hu : X.A.units + 65 < cLine) : MtR X "list.index" (liftM (gd X) wIdx) := mtR_con (mt_indexD hu) fun x xs H Q ⟨as, st, dx, ds, P, R, rx, rs, ⟨es, y, j, ex, ed, s1, s2, hj, p⟩, k⟩ => by
  subst ed
  cases rs with
  | cons r rr =>
    cases rr
    obtain ⟨a, ys, rfl, hq, ra⟩ := rep_list R rx ex
    have q := rep_dp R rx (by rw [ex]; exact s1.1)
    rw [ex, py] at q
    unfold idxD at hj
    rw [List.findIdx?_eq_some_iff_getElem] at hj
    obtain ⟨hlt, he, hn⟩ := hj
    refine ⟨a, _, _, _, j, py es[j], rfl, rfl, q, rep_dp R r s2.1, ?_, s2.shaped (Nat.le_refl _), ?_, he, fun m z hm hz => ?_, k _ _ as _ H p R (.int _) (.refl _ _)⟩
    · have := s1.shaped (Nat.le_refl _); rw [py] at this; exact this
    · rw [pys_map, List.getElem?_map, List.getElem?_eq_getElem hlt]; rfl
    · rw [pys_map, List.getElem?_map, List.getElem?_eq_getElem (by omega)] at hz
      cases hz
      have := hn m hm
      simpa [deq] using this

/-! ### stores to places -/
abbrev WPS := D → D → D → List Cell → (List Cell → Prop) → Prop
def liftSet (G : Gd) (g : WPS) : TSet := fun o i v H Q => ∃ as st dox di dv P, RepSt G H as st ∧ Rep G H as o dox ∧ Rep G H as i di ∧ Rep G H as v dv ∧ g dox di dv st P ∧ ∀ st' as' H', P st' → RepSt G H' as' st' → Frm as H as' H' → Q H'
def gSubD (g : WPS) (o i : DE) : DG := fun d ρ Q => o ρ fun x ρ1 => i ρ1 fun y ρ2 => g x y d ρ2.st fun st => Q ⟨ρ2.sl, st⟩
theorem dg_sub {g : WPS} {o i : Expr} {dox di : DE} {vs : List Nat} {pos : Pos} (ho : DEx X o dox) (hi : DEx X i di) (hs : PSet X (liftSet (gd X) g))
    (ha : ∀ v, assign (.Subscript o i pos) X.env v = (do
      let ov ← holding [v] (eval o X.env)
      let iv ← holding [v, ov] (eval i X.env)
      standAt pos
      holding [v, ov, iv] (setItem ov iv v)
      release [v, ov, iv] []) := by intro _; rfl) : DGx X vs (.Subscript o i pos) (gSubD g dox di) :=
  pg_con' (pg_sub ho hi hs ha) fun v σ H Q ⟨as, ρ, d, P, R, r, w, k⟩ =>
    ⟨as, ρ, _, R, w, fun x ρ1 as1 v1 H1 w1 R1 r1 f1 => ⟨as1, ρ1, _, R1, w1, fun y ρ2 as2 v2 H2 w2 R2 r2 f2 =>
      ⟨as2, ρ2.st, x, y, d, _, R2.st, r1.frm f2, r2, (r.frm f1).frm f2, w2, fun st' as' H' p R' f => k _ as' σ H' p (R2.store f R') ((f1.trans f2).trans f) rfl⟩⟩⟩
theorem pset_con {t t' : TSet} (h : PSet X t) (c : ∀ o i v H Q, t' o i v H Q → t o i v H Q) : PSet X t' := fun pins s σ H o i v ov iv u Q I ro ri rv q => h pins s σ H o i v ov iv u Q I ro ri rv (c _ _ _ _ _ q)
/-- xs[i] = v -/
def wSetL : WPS := fun x y d st P => ∃ j es i n, x = .ptr j ∧ st[j]? = some (.lst es) ∧ y = .int i ∧ ixN es.length i = some n ∧ P (st.set j (.lst (es.set n d)))
theorem ps_setL : PSet X (liftSet (gd X) wSetL) := pset_con set_list fun o i v H Q ⟨as, st, dox, di, dv, P, R, ro, ri, rv, ⟨j, es, n, m, ex, e, ey, hn, p⟩, k⟩ => by
  subst ex; subst ey
  obtain ⟨a, vs, rfl, h1, h2, h3⟩ := cellL R ro e
  obtain ⟨R', f', up⟩ := h3 (vs.set m v) (es.set m dv) fun H' up => RepAll.set (up _ _ rv) m (repAll_up up h2)
  exact ⟨a, vs, n, m, rfl, rep_int ri, h1, by rw [h2.length]; exact hn, k _ as _ p R' f'⟩

/-! ### built-in functions -/
/-- len -/
def wLen : WPn := fun ds st Q => ∃ x, ds = [x] ∧ match vw st x with
  | .lst es => Q (.int es.length)
  | .tup es => Q (.int es.length)
  | _ => False
theorem rb_len : CallR X (.builtin "len") (liftN (gd X) wLen) := callR_con call_len_seq fun xs H Q ⟨as, st, ds, P, R, r, ⟨x, ed, w⟩, k⟩ => by
  subst ed
  cases r with
  | cons r rr =>
    cases rr
    split at w
    · rename_i es e
      obtain ⟨a, ys, rfl, h, ra⟩ := rep_list R r e
      exact ⟨a, ys, rfl, .inl h, by rw [ra.length]; exact k _ _ H w (Same.refl H) (.int _)⟩
    · rename_i es e
      have e := vw_tup e
      subst e
      obtain ⟨a, ys, rfl, h, ra⟩ := rep_tup r
      exact ⟨a, ys, rfl, .inr h, by rw [ra.length]; exact k _ _ H w (Same.refl H) (.int _)⟩
    · exact w.elim
theorem rep_ints {G : Gd} {H : Hp} {as : List Addr} : ∀ {ns : List Int} {xs : List V}, RepAll G H as xs (ns.map .int) → xs = ns.map V.int
  | [], _, r => by cases r; rfl
  | n :: ns, _, r => by
    rw [List.map_cons] at r
    cases r with
    | cons h r => rw [rep_int h, rep_ints r]; rfl
theorem rep_bls {G : Gd} {H : Hp} {as : List Addr} : ∀ {ns : List Bool} {xs : List V}, RepAll G H as xs (ns.map .bl) → xs = ns.map V.bl
  | [], _, r => by cases r; rfl
  | n :: ns, _, r => by
    rw [List.map_cons] at r
    cases r with
    | cons h r => rw [rep_bl h, rep_bls r]; rfl
def wSum : WPn := fun ds st Q => ∃ (x : D) (ns : List Int), ds = [x] ∧ vw st x = .lst (ns.map .int) ∧ Q (.int ns.sum)
theorem rb_sum (hc : X.calm = true) : CallR X (.builtin "sum") (liftN (gd X) wSum) := callR_con (cr_sum hc) fun xs H Q ⟨as, st, ds, P, R, r, ⟨x, ns, ed, e, w⟩, k⟩ => by
  subst ed
  cases r with
  | cons r rr =>
    cases rr
    obtain ⟨a, ys, rfl, h, ra⟩ := rep_list R r e
    rw [rep_ints ra] at h
    exact ⟨a, ns, rfl, h, k _ _ H w (Same.refl H) (.int _)⟩
def wAll : WPn := fun ds st Q => ∃ (x : D) (bs : List Bool), ds = [x] ∧ vw st x = .lst (bs.map .bl) ∧ Q (.bl (bs.all id))
theorem rb_all (hc : X.calm = true) : CallR X (.builtin "all") (liftN (gd X) wAll) := callR_con (cr_all hc) fun xs H Q ⟨as, st, ds, P, R, r, ⟨x, ns, ed, e, w⟩, k⟩ => by
  subst ed
  cases r with
  | cons r rr =>
    cases rr
    obtain ⟨a, ys, rfl, h, ra⟩ := rep_list R r e
    rw [rep_bls ra] at h
    exact ⟨a, ns, rfl, h, k _ _ H w (Same.refl H) (.bl _)⟩
def wAny : WPn := fun ds st Q => ∃ (x : D) (bs : List Bool), ds = [x] ∧ vw st x = .lst (bs.map .bl) ∧ Q (.bl (bs.any id))
theorem rb_any (hc : X.calm = true) : CallR X (.builtin "any") (liftN (gd X) wAny) := callR_con (cr_any hc) fun xs H Q ⟨as, st, ds, P, R, r, ⟨x, ns, ed, e, w⟩, k⟩ => by
  subst ed
  cases r with
  | cons r rr =>
    cases rr
    obtain ⟨a, ys, rfl, h, ra⟩ := rep_list R r e
    rw [rep_bls ra] at h
    exact ⟨a, ns, rfl, h, k _ _ H w (Same.refl H) (.bl _)⟩
def wMax2 : WPn := fun ds _ Q => ∃ i j, ds = [.int i, .int j] ∧ Q (.int (max i j))
theorem rb_max2 (hc : X.calm = true) : CallR X (.builtin "max") (liftN (gd X) wMax2) := callR_con (call_max2 hc) fun xs H Q ⟨as, st, ds, P, R, r, ⟨i, j, ed, w⟩, k⟩ => by
  subst ed
  cases r with
  | cons r rr =>
    cases rr with
    | cons r2 rr =>
      cases rr
      refine ⟨i, j, by rw [rep_int r, rep_int r2], ?_⟩
      rw [show (if j > i then j else i) = max i j by omega]
      exact k _ _ H w (Same.refl H) (.int _)
def wMin2 : WPn := fun ds _ Q => ∃ i j, ds = [.int i, .int j] ∧ Q (.int (min i j))
theorem rb_min2 (hc : X.calm = true) : CallR X (.builtin "min") (liftN (gd X) wMin2) := callR_con (call_min2 hc) fun xs H Q ⟨as, st, ds, P, R, r, ⟨i, j, ed, w⟩, k⟩ => by
  subst ed
  cases r with
  | cons r rr =>
    cases rr with
    | cons r2 rr =>
      cases rr
      refine ⟨i, j, by rw [rep_int r, rep_int r2], ?_⟩
      rw [show (if j < i then j else i) = min i j by omega]
      exact k _ _ H w (Same.refl H) (.int _)
/-- max of a list of ints -/
def wMaxL : WPn := fun ds st Q => ∃ (x : D) (ns : List Int), ds = [x] ∧ vw st x = .lst (ns.map .int) ∧ 0 < ns.length ∧ ∀ m, m ∈ ns → (∀ y ∈ ns, y ≤ m) → Q (.int m)
theorem rb_maxL (hc : X.calm = true) : CallR X (.builtin "max") (liftN (gd X) wMaxL) := callR_con (cr_max hc) fun xs H Q ⟨as, st, ds, P, R, r, ⟨x, ns, ed, e, hl, w⟩, k⟩ => by
  subst ed
  cases r with
  | cons r rr =>
    cases rr
    obtain ⟨a, ys, rfl, h, ra⟩ := rep_list R r e
    rw [rep_ints ra] at h
    exact ⟨a, ns, rfl, h, hl, fun m hm hy => k _ _ H (w m hm hy) (Same.refl H) (.int _)⟩
/-- tuple(xs), tuple(t) -/
def wTupOf : WPn := fun ds st Q => ∃ x, ds = [x] ∧ match vw st x with
  | .lst es => Q (.tup es)
  | .tup es => Q (.tup es)
  | _ => False
theorem rb_tuple : CallR X (.type "tuple") (liftN (gd X) wTupOf) := callR_con call_tuple_of fun xs H Q ⟨as, st, ds, P, R, r, ⟨x, ed, w⟩, k⟩ => by
  subst ed
  cases r with
  | cons r rr =>
    cases rr
    split at w
    · rename_i es e
      obtain ⟨a, ys, rfl, h, ra⟩ := rep_list R r e
      exact ⟨a, ys, rfl, .inl ⟨h, fun l hl => new_tup (P := P) l hl ra w k⟩⟩
    · rename_i es e
      have e := vw_tup e
      subst e
      obtain ⟨a, ys, rfl, h, ra⟩ := rep_tup r
      exact ⟨a, ys, rfl, .inr ⟨h, k _ _ H w (Same.refl H) (.tup h ra)⟩⟩
    · exact w.elim
/-- list(xs), list(t): frozen -/
def wLstOf : WPn := fun ds st Q => ∃ x, ds = [x] ∧ match vw st x with
  | .lst es => Q (.lst es)
  | .tup es => Q (.lst es)
  | _ => False
theorem rb_list : CallR X (.type "list") (liftN (gd X) wLstOf) := callR_con (callR_frz call_list_of) fun xs H Q ⟨as, st, ds, P, R, r, ⟨x, ed, w⟩, k⟩ => by
  subst ed
  cases r with
  | cons r rr =>
    cases rr
    split at w
    · rename_i es e
      obtain ⟨a, ys, rfl, h, ra⟩ := rep_list R r e
      exact ⟨a, ys, rfl, .inl h, fun l hl => frzQ_new (P := P) l hl ra w k⟩
    · rename_i es e
      have e := vw_tup e
      subst e
      obtain ⟨a, ys, rfl, h, ra⟩ := rep_tup r
      exact ⟨a, ys, rfl, .inr h, fun l hl => frzQ_new (P := P) l hl ra w k⟩
    · exact w.elim
/-- a value that is a new list is made a cell -/
def dThaw (e : DE) : DE := fun ρ Q => e ρ fun x ρ' => ∃ ds, x = .lst ds ∧ Q (.ptr ρ'.st.length) ⟨ρ'.sl, ρ'.st ++ [.lst ds]⟩
/-- sorted(xs) -/
theorem each_of {G : Gd} {H : Hp} {as : List Addr} : ∀ {us : List Value} {xs : List V} {ds : List D}, Vals xs us → RepAll G H as xs ds → PySem.W.EachIs (fun u d => ∃ x, RelV x u ∧ Rep G H as x d) us ds
  | _, _, _, .nil, .nil => .nil
  | _, _, _, .cons r t, .cons h q => .cons ⟨_, r, h⟩ (each_of t q)
theorem of_each {G : Gd} {H : Hp} {as : List Addr} : ∀ {us : List Value} {ds : List D}, PySem.W.EachIs (fun u d => ∃ x, RelV x u ∧ Rep G H as x d) us ds → ∃ xs, Vals xs us ∧ RepAll G H as xs ds
  | _, _, .nil => ⟨[], .nil, .nil⟩
  | _, _, .cons ⟨x, r, h⟩ t => by
    obtain ⟨xs, h1, h2⟩ := of_each t
    exact ⟨x :: xs, .cons r h1, .cons h h2⟩
def sortD (ds : List D) : List D := ds.mergeSort (PySem.W.dataLe false py)
def SortOk (ds : List D) : Prop := sh 60 (.lst ds) ∧ PySem.W.AllAlike (ds.map py) ∧ PySem.W.Sortable (ds.map py)
def wSorted : WPn := fun ds st Q => ∃ x es, ds = [x] ∧ (vw st x = .lst es ∨ vw st x = .tup es) ∧ SortOk es ∧ Q (.lst (sortD es))
theorem each_reads {pins : List (Addr × Obj)} {s : Shared} {σ : L2.St} {H : Hp} {as : List Addr} (I : L2.Inv X pins σ H s) : ∀ {xs : List V} {its : List Value} {es : List D}, Vals xs its → RepAll (gd X) H as xs es → PyData.canLayAll0 (pys es) = true → PySem.W.EachIs (fun u d => ∃ as, Reads s.heap u (py d) as) its es
  | _, _, _, .nil, .nil, _ => .nil
  | _, _, _, .cons q qs, .cons h r, hc => by
    rw [pys, PyData.canLayAll0, Bool.and_eq_true] at hc
    exact .cons (Dp.reads I _ _ _ (h.dp hc.1) q) (each_reads I qs r hc.2)
theorem sorted_raw {pins : List (Addr × Obj)} {s : Shared} {σ : L2.St} {H : Hp} {Q : VK} {a : Addr} {xs : List V} {es : List D} {as : List Addr} {its : List Value} (hu : X.A.units + 64 < cLine) (I : L2.Inv X pins σ H s) (hl : s.heap.IsList a its.toArray) (rv : Vals xs its) (hz : xs.length ≤ sizeLine) (ra : RepAll (gd X) H as xs es) (ok : SortOk es)
    (k : ∀ v H', Same H H' → Rep (gd X) H' as v (.lst (sortD es)) → Q v H') : wpAny (model X.prog X.w) X.A (call (.builtin "sorted") [.ref a]) (EP X pins σ Q) X.xe s := by
  obtain ⟨⟨c1, c2⟩, al, so⟩ := ok
  rw [py] at c1 c2
  have er : PySem.W.EachIs (fun u d => ∃ as, Reads s.heap u (py d) as) its es := by
    have hc : PyData.canLayAll0 (pys es) = true := by simpa [PyData.canLay0] using c1
    exact each_reads I rv ra hc
  have hlen : es.length ≤ sizeLine := by rw [← ra.length]; exact hz
  refine PySem.W.sorted_data hl (each_of rv ra) er al so hlen (fun d hd => ?_) fun out ho he => ?_
  · have : (py d).depth ≤ 60 := by
      simp only [PyData.depth] at c2
      have c3 := (depthAll_iff 60 (pys es)).mp (by omega) (py d) (by rw [pys_map]; exact List.mem_map_of_mem hd)
      exact c3
    omega
  · obtain ⟨ys, v1, v2⟩ := of_each he
    obtain ⟨ep, he'⟩ := PyProof.Rows.sortedAll_at s.heap its out.toArray
    have hyl : ys.length ≤ sizeLine := by rw [v1.length, ho]; exact hlen
    have hf : H (s.heap.objs.size + 1) = none := I.hok.fresh (Nat.le_succ _)
    refine EP.frz ⟨.ref _, upd H (s.heap.objs.size + 1) (.lst ys), I.laid (t' := s.toks) (fun _ _ => PyProof.Rows.sortedAll_old) (Nat.le_succ _) ⟨hyl, out, ep, v1, he'⟩, rfl, ?_⟩
    exact frzQ_new (P := fun z => z = .lst (sortD es)) _ hf v2 rfl fun z v H' ez s r => by subst ez; exact k v H' s r
theorem rb_sorted (hu : X.A.units + 64 < cLine) : CallR X (.builtin "sorted") (liftN (gd X) fun ds st Q => ∃ x es, ds = [x] ∧ vw st x = .lst es ∧ SortOk es ∧ Q (.lst (sortD es))) := by
  intro pins s σ H xs us Q I rv h
  obtain ⟨as, st, ds, P, R, r, ⟨x, es, ed, e, ok, w⟩, k⟩ := h
  subst ed
  cases r with
  | cons r rr =>
    cases rr
    obtain ⟨a, ys, rfl, h, ra⟩ := rep_list R r e
    rw [Vals.ref1 rv]
    obtain ⟨its, rv2, hl, hz⟩ := I.list h
    exact sorted_raw hu I hl.isList rv2 hz ra ok fun v H' s r => k _ v H' w s r
end
end BB
set_option maxRecDepth 100000
/-! The data layer, 8: dicts keyed by tuples (dct) or by ints and texts (dcs). -/
namespace BB
open PySem PySem.Spec PyProof.Rows L2

/-! ### looking up, storing -/
def lookD : List D → List D → D → Option D
  | k :: ks, v :: vs, x => if nkey k = nkey x then some v else lookD ks vs x
  | _, _, _ => none
def putD : List D → List D → D → D → List D × List D
  | k :: ks, v :: vs, x, y => if nkey k = nkey x then (k :: ks, y :: vs) else (k :: (putD ks vs x y).1, v :: (putD ks vs x y).2)
  | _, _, x, y => ([x], [y])
/-- a dict keyed by tuples; one keyed by ints and texts -/
def dvT (st : List Cell) : D → Option (List D × List D)
  | .dct ks vs => some (ks, vs)
  | .ptr j => (match st[j]? with
    | some (.dct ks vs) => some (ks, vs)
    | _ => none)
  | _ => none
def dvS (st : List Cell) : D → Option (List D × List D)
  | .dcs ks vs => some (ks, vs)
  | .ptr j => (match st[j]? with
    | some (.dcs ks vs) => some (ks, vs)
    | _ => none)
  | _ => none
/-- a tuple that may be a key -/
def isKey (k : D) : Prop := ∃ ds n, k = .tup ds ∧ nkey k = some n ∧ n.depth ≤ 8
/-- an int or a text that is a key -/
def isKeyS (k : D) : Prop := ∃ n, keyD k = some n

section
variable {G : Gd} {H : Hp} {as : List Addr} {st : List Cell}
theorem ents_look : ∀ {ks vs : List D} {xs : Ents} {x : D} {n : NestedKey}, RepEnts G H as ks vs xs → nkey x = some n →
    match atKey xs n with
    | some p => ∃ d v, lookD ks vs x = some d ∧ RelV v p.2 ∧ Rep G H as v d
    | none => lookD ks vs x = none
  | _, _, [], x, n, .nil, _ => by simp [atKey, lookD]
  | _, _, (m, b, u) :: xs, x, n, .cons h1 h2 h3 h4 h5 r, hx => by
    by_cases e : m = n
    · subst e
      simp only [atKey, List.find?_cons, decide_true, Option.map_some, lookD]
      rw [if_pos (h1.trans hx.symm)]
      exact ⟨_, _, rfl, h4, h5⟩
    · have ih := ents_look (x := x) r hx
      have e1 : atKey ((m, b, u) :: xs) n = atKey xs n := by simp [atKey, List.find?_cons, e]
      rw [e1]
      simp only [lookD]
      rw [if_neg (fun z => e (by rw [h1, hx] at z; exact Option.some.inj z))]
      exact ih
theorem stored_cons {m n : NestedKey} {b a : Addr} {u y : Value} {xs : Ents} (hm : m ∉ xs.map (·.1)) : storedH ((m, b, u) :: xs) n a y = if m = n then (m, b, y) :: xs else (m, b, u) :: storedH xs n a y := by
  by_cases e : m = n
  · subst e
    rw [if_pos rfl]
    have h1 : atKey ((m, b, u) :: xs) m = some (b, u) := by simp [atKey]
    rw [storedH_old h1, List.map_cons]
    have h2 : putAt m y (m, b, u) = (m, b, y) := by simp [putAt]
    rw [h2]
    congr 1
    conv => rhs; rw [← List.map_id xs]
    apply List.map_congr_left
    intro z hz
    show putAt m y z = z
    unfold putAt
    rw [if_neg (fun e : z.1 = m => hm (by rw [← e]; exact List.mem_map_of_mem (f := fun x : NestedKey × Addr × Value => x.1) hz))]
  · rw [if_neg e]
    have e1 : atKey ((m, b, u) :: xs) n = atKey xs n := by simp [atKey, List.find?_cons, e]
    have h2 : putAt n y (m, b, u) = (m, b, u) := by simp [putAt, e]
    cases q : atKey xs n with
    | none => rw [storedH_new (by rw [e1]; exact q), storedH_new q]; rfl
    | some p => rw [storedH_old (by rw [e1]; exact q), storedH_old q, List.map_cons, h2]
theorem ents_put : ∀ {ks vs : List D} {xs : Ents} {x y : D} {n : NestedKey} {a : Addr} {v : V} {u : Value}, RepEnts G H as ks vs xs → (xs.map (·.1)).Nodup → nkey x = some n → n.depth ≤ 8 → Rep G H as (.ref a) x → RelV v u → Rep G H as v y →
    RepEnts G H as (putD ks vs x y).1 (putD ks vs x y).2 (storedH xs n a u)
  | _, _, [], x, y, n, a, v, u, .nil, _, hx, hd, ha, hv, hy => by
    rw [storedH_new (by simp [atKey])]
    simp only [putD]
    exact .cons hx hd ha hv hy .nil
  | _, _, (m, b, w') :: xs, x, y, n, a, v, u, .cons h1 h2 h3 h4 h5 r, hn, hx, hd, ha, hv, hy => by
    rw [List.map_cons, List.nodup_cons] at hn
    rw [stored_cons hn.1]
    simp only [putD]
    by_cases e : m = n
    · rw [if_pos e, if_pos (by rw [h1, hx, e])]
      exact .cons h1 h2 h3 hv hy r
    · rw [if_neg e, if_neg (fun z => e (by rw [h1, hx] at z; exact Option.some.inj z))]
      exact .cons h1 h2 h3 h4 h5 (ents_put r hn.2 hx hd ha hv hy)
theorem RepEnts.length : ∀ {ks vs : List D} {xs : Ents}, RepEnts G H as ks vs xs → ks.length = xs.length ∧ vs.length = xs.length
  | _, _, _, .nil => ⟨rfl, rfl⟩
  | _, _, _, .cons _ _ _ _ _ r => by
    obtain ⟨h1, h2⟩ := RepEnts.length r
    simp [h1, h2]
theorem RepKV.length : ∀ {ks vs : List D} {xs : List (Key × V)}, RepKV G H as ks vs xs → ks.length = xs.length ∧ vs.length = xs.length
  | _, _, _, .nil => ⟨rfl, rfl⟩
  | _, _, _, .cons _ _ r => by
    obtain ⟨h1, h2⟩ := RepKV.length r
    simp [h1, h2]
theorem keyD_nkey {x y : D} {n m : Key} (h1 : keyD x = some n) (h2 : keyD y = some m) : (nkey x = nkey y) ↔ n = m := by
  cases x <;> simp [keyD] at h1 <;> cases y <;> simp [keyD] at h2 <;> subst h1 <;> subst h2 <;> simp [nkey]
theorem kv_look : ∀ {ks vs : List D} {xs : List (Key × V)} {x : D} {n : Key}, RepKV G H as ks vs xs → keyD x = some n →
    match valV xs n with
    | some v => ∃ d, lookD ks vs x = some d ∧ Rep G H as v d
    | none => lookD ks vs x = none
  | _, _, [], x, n, .nil, _ => by simp [valV, lookD]
  | _, _, (m, v) :: xs, x, n, .cons h1 h5 r, hx => by
    by_cases e : m = n
    · subst e
      rw [valV_pos rfl]
      simp only [lookD]
      rw [if_pos ((keyD_nkey h1 hx).mpr rfl)]
      exact ⟨_, rfl, h5⟩
    · have ih := kv_look (x := x) r hx
      rw [valV_neg e]
      simp only [lookD]
      rw [if_neg (fun z => e ((keyD_nkey h1 hx).mp z))]
      exact ih
theorem putK_cons {m n : Key} {u y : V} {xs : List (Key × V)} (hm : m ∉ xs.map (·.1)) : putK ((m, u) :: xs) n y = if m = n then (m, y) :: xs else (m, u) :: putK xs n y := by
  by_cases e : m = n
  · subst e
    rw [if_pos rfl]
    unfold putK
    rw [if_pos (by simp), List.map_cons, if_pos rfl]
    congr 1
    conv => rhs; rw [← List.map_id xs]
    apply List.map_congr_left
    intro z hz
    rw [if_neg (fun e : z.1 = m => hm (by rw [← e]; exact List.mem_map_of_mem (f := fun x : Key × V => x.1) hz))]; rfl
  · rw [if_neg e]
    unfold putK
    have e1 : (((m, u) :: xs).any fun kv => decide (kv.1 = n)) = xs.any fun kv => decide (kv.1 = n) := by simp [e]
    rw [e1]
    split
    · rw [List.map_cons, if_neg e]
    · rfl
theorem kv_put : ∀ {ks vs : List D} {xs : List (Key × V)} {x y : D} {n : Key} {v : V}, RepKV G H as ks vs xs → (xs.map (·.1)).Nodup → keyD x = some n → Rep G H as v y → RepKV G H as (putD ks vs x y).1 (putD ks vs x y).2 (putK xs n v)
  | _, _, [], x, y, n, v, .nil, _, hx, hy => by
    simp only [putD, putK, List.any_nil]
    exact .cons hx hy .nil
  | _, _, (m, w') :: xs, x, y, n, v, .cons h1 h5 r, hn, hx, hy => by
    rw [List.map_cons, List.nodup_cons] at hn
    rw [putK_cons hn.1]
    simp only [putD]
    by_cases e : m = n
    · rw [if_pos e, if_pos ((keyD_nkey h1 hx).mpr e)]
      exact .cons h1 hy r
    · rw [if_neg e, if_neg (fun z => e ((keyD_nkey h1 hx).mp z))]
      exact .cons h1 h5 (kv_put r hn.2 hx hy)
theorem putD_length : ∀ (ks vs : List D) (x y : D), (putD ks vs x y).1.length ≤ ks.length + 1
  | k :: ks, v :: vs, x, y => by
    simp only [putD]
    split
    · simp
    · have := putD_length ks vs x y
      simp only [List.length_cons]
      omega
  | [], _, x, y => by simp [putD]
  | _ :: _, [], x, y => by simp [putD]
/-- what may be read as a dict keyed by tuples -/
theorem rep_dct (R : RepSt G H as st) {v : V} {d : D} {ks vs : List D} (r : Rep G H as v d) (e : dvT st d = some (ks, vs)) : ∃ a xs, v = .ref a ∧ Rd H a (dHO G a xs) ∧ (a == sysModules) = false ∧ xs.length ≤ sizeLine ∧ RepEnts G H as ks vs xs := by
  cases r with
  | dct h m z r => cases e; exact ⟨_, _, rfl, .inr ⟨_, h⟩, m, z, r⟩
  | ptr h =>
    rename_i a j
    simp only [dvT] at e
    cases q : st[j]? with
    | none => rw [q] at e; cases e
    | some c =>
      rw [q] at e
      cases c with
      | dct ks' vs' =>
        cases e
        obtain ⟨xs, e1, m, z, e2⟩ := R.ok j _ a q h
        exact ⟨a, xs, rfl, .inl e1, m, z, e2⟩
      | _ => cases e
  | _ => cases e
theorem rep_dcs (R : RepSt G H as st) {v : V} {d : D} {ks vs : List D} (r : Rep G H as v d) (e : dvS st d = some (ks, vs)) : ∃ a kvs, v = .ref a ∧ Rd H a (.dK kvs) ∧ RepKV G H as ks vs kvs := by
  cases r with
  | dcs h r => cases e; exact ⟨_, _, rfl, .inr ⟨_, h⟩, r⟩
  | ptr h =>
    rename_i a j
    simp only [dvS] at e
    cases q : st[j]? with
    | none => rw [q] at e; cases e
    | some c =>
      rw [q] at e
      cases c with
      | dcs ks' vs' =>
        cases e
        obtain ⟨xs, e1, e2⟩ := R.ok j _ a q h
        exact ⟨a, xs, rfl, .inl e1, e2⟩
      | _ => cases e
  | _ => cases e
end

section
variable {X : Cx} {pins : List (Addr × Obj)} {σ : L2.St} {H : Hp} {s : Shared} {as : List Addr}
mutual
theorem nested_of (I : L2.Inv X pins σ H s) : ∀ {d : D} {v : V} {u : Value} {n : NestedKey}, Rep (gd X) H as v d → nkey d = some n → RelV v u → NestedIs s.heap n u
  | .non, _, _, _, r, hn, ru => by cases r; cases ru; rw [nkey] at hn; cases hn; exact .none
  | .bl b, _, _, _, r, hn, ru => by cases r; cases ru; rw [nkey] at hn; cases hn; exact .bool rfl
  | .int i, _, _, _, r, hn, ru => by cases r; obtain ⟨t, rfl⟩ := ru; rw [nkey] at hn; cases hn; exact .int _ _
  | .str x, _, _, _, r, hn, ru => by cases r; obtain ⟨t, rfl⟩ := ru; rw [nkey] at hn; cases hn; exact .text _ _
  | .tup ds, _, _, n, r, hn, ru => by
    cases r with
    | tup h ra =>
      cases ru
      rw [nkey] at hn
      cases q : nkeys ds with
      | none => rw [q] at hn; cases hn
      | some ks =>
        rw [q] at hn
        cases hn
        obtain ⟨its, rv, ⟨o, ho, hc, m, hd⟩, hz⟩ := I.tuple h
        exact .tup ho hc hd (by simpa using nesteds_of I ra q rv)
  | .lst _, _, _, _, _, hn, _ => by rw [nkey] at hn; cases hn
  | .dct _ _, _, _, _, _, hn, _ => by rw [nkey] at hn; cases hn
  | .dcs _ _, _, _, _, _, hn, _ => by rw [nkey] at hn; cases hn
  | .ptr _, _, _, _, _, hn, _ => by rw [nkey] at hn; cases hn
theorem nesteds_of (I : L2.Inv X pins σ H s) : ∀ {ds : List D} {vs : List V} {us : List Value} {ns : List NestedKey}, RepAll (gd X) H as vs ds → nkeys ds = some ns → Vals vs us → NestedAll s.heap ns us
  | [], _, _, _, r, hn, ru => by cases r; cases ru; rw [nkeys] at hn; cases hn; exact .nil
  | d :: ds, _, _, ns, r, hn, ru => by
    cases r with
    | cons h r =>
      cases ru with
      | cons q qs =>
        rw [nkeys] at hn
        cases e1 : nkey d with
        | none => rw [e1] at hn; cases hn
        | some k =>
          cases e2 : nkeys ds with
          | none => rw [e1, e2] at hn; cases hn
          | some ks =>
            rw [e1, e2] at hn
            cases hn
            exact .cons (nested_of I h e1 q) (nesteds_of I r e2 qs)
end
theorem ents_is (I : L2.Inv X pins σ H s) : ∀ {ks vs : List D} {xs : Ents}, RepEnts (gd X) H as ks vs xs → ∀ x ∈ xs, (nestedKind X.prog X.w).is s.heap x.1 x.2.1
  | _, _, _, .nil, x, hx => by cases hx
  | _, _, _, .cons h1 h2 h3 h4 h5 r, x, hx => by
    rcases List.mem_cons.mp hx with e | hx
    · subst e; exact ⟨nested_of I h3 h1 rfl, h2⟩
    · exact ents_is I r x hx
/-- the dict's object -/
theorem Inv_dict (I : L2.Inv X pins σ H s) {a : Addr} {xs : Ents} {ks vs : List D} (h : Rd H a (dHO (gd X) a xs)) (r : RepEnts (gd X) H as ks vs xs) : s.heap.DictOfH (nestedKind X.prog X.w) a xs := by
  have q : ∃ o es ep, s.heap.get? a = some o ∧ o.ExactDict ∧ o.data = .dict es ep ∧ es.toList = xs.map (entryOfKey (nestedKind X.prog X.w)) ∧ (xs.map (·.1)).Nodup := by
    rcases h with h | ⟨o, h⟩
    · exact (I.hok a _ h).1
    · exact (I.hok a _ h).2.1
  obtain ⟨o, es, ep, h1, h2, h3, h4, h5⟩ := q
  exact ⟨o, es, ep, h1, h2, h3, h4, ents_is I r, h5⟩
theorem dictOfH_ok {h' : Heap} {H' : Hp} {a : Addr} {xs : Ents} (d : h'.DictOfH (nestedKind X.prog X.w) a xs) : ObjOk X.prog X.w H' h' a (dHO (gd X) a xs) := by
  obtain ⟨o, es, ep, h1, h2, h3, h4, _, h5⟩ := d
  exact ⟨⟨o, es, ep, h1, h2, h3, h4, h5⟩, ⟨o, h1⟩, fun g1 g2 ⟨o', es', ep', q1, q⟩ k => ⟨o', es', ep', k _ q1, q⟩⟩
theorem room8 (hu : X.A.units + 64 < cLine) : (nestedKind X.prog X.w).room X.A.in1 := by
  show X.A.units + 1 + 8 < cLine
  omega
theorem key_rep {G : Gd} {H : Hp} {as : List Addr} {v : V} {k : D} (r : Rep G H as v k) (h : isKey k) : ∃ b n, v = .ref b ∧ nkey k = some n ∧ n.depth ≤ 8 := by
  obtain ⟨ds, n, rfl, hn, hd⟩ := h
  cases r with
  | tup _ _ => exact ⟨_, n, rfl, hn, hd⟩
end

section
variable {X : Cx}
/-! ### d[k], and xs[i] again: whichever it is -/
def wIxD : WP2 := fun x y st Q => (∃ ks vs d, dvT st x = some (ks, vs) ∧ isKey y ∧ lookD ks vs y = some d ∧ Q d) ∨ (∃ ks vs d, dvS st x = some (ks, vs) ∧ isKeyS y ∧ lookD ks vs y = some d ∧ Q d)
theorem kV_keyD {G : Gd} {H : Hp} {as : List Addr} {v : V} {k : D} {n : Key} (r : Rep G H as v k) (h : keyD k = some n) : v = kV n := by
  cases k <;> simp [keyD] at h
  · subst h; exact rep_int r
  · subst h; exact rep_str r
theorem subT {prog : Program} {w : World} {A : Around} {E : Value → Shared → Prop} {s : Shared} {value slice : Expr} {o i : Value} {Q : Value → Shared → Prop} (hT : s.TypeIs o "dict")
    (hs : subscripted slice false o i = operate [o, i] (getItem o i)) (h : wpAny (model prog w) A (getItem o i) Q E s) : wpAny (model prog w) A (subscriptTail value slice o i) Q E s := by
  unfold subscriptTail
  refine wpAny_bind ?_
  rw [getitemInPython_of_ne hT.not_modules]
  refine wpAny_bind (wpAny_specialOf hT PySem.F.slot_dict_getitem.lookup ?_)
  have fin : wpAny (model prog w) A (subscripted slice false o i) (fun r s₃ => wpAny (model prog w) A (letTemporaryGo value o r >>= fun _ => pure r) Q E s₃) E s := by
    rw [hs]
    exact wpAny_operating (wpAny_mono h (fun r s₃ h₃ => wpAny_bind (wpAny_letTemporaryGo (wpAny_pure h₃))) fun _ _ x => x)
  first
    | exact wpAny_pure (wpAny_bind fin)
    | exact wpAny_bind (wpAny_pure (wpAny_bind fin))
    | exact wpAny_bind fin
theorem rixD (hu : X.A.units + 64 < cLine) : IxR X (lift2 (gd X) wIxD) := by
  intro value slice pins s σ H x y v u Q I rx ry h hs
  obtain ⟨as, st, dx, dy, P, R, qx, qy, w, k⟩ := h
  rcases w with ⟨ks, vs, d, e, hk, hl, p⟩ | ⟨ks, vs, d, e, ⟨n, hk⟩, hl, p⟩
  · obtain ⟨a, xs, rfl, hd, hm, hz, ra⟩ := rep_dct R qx e
    obtain ⟨b, n, rfl, hn, hdp⟩ := key_rep qy hk
    cases rx; cases ry
    have dd := Inv_dict I hd ra
    have lk := ents_look ra hn
    cases q : atKey xs n with
    | none => rw [q] at lk; rw [hl] at lk; cases lk
    | some z =>
      rw [q] at lk
      obtain ⟨d', v', e1, e2, e3⟩ := lk
      rw [hl] at e1; cases e1
      exact subT dd.typeIs hs (wpAny_getItem_heap (room8 hu) ⟨nested_of I qy hn rfl, hdp⟩ dd q ⟨v', H, I.tok _, e2, k _ _ H p (Same.refl H) e3⟩)
  · obtain ⟨a, kvs, rfl, hd, ra⟩ := rep_dcs R qx e
    cases rx
    have ev := kV_keyD qy hk
    subst ev
    have lk := kv_look ra hk
    cases q : valV kvs n with
    | none => rw [q] at lk; rw [hl] at lk; cases lk
    | some z =>
      rw [q] at lk
      obtain ⟨d', e1, e3⟩ := lk
      rw [hl] at e1; cases e1
      have g : DGet H a (kV n) (some z) := .inl ⟨kvs, n, hd, rfl, q.symm⟩
      exact subT (dict_typeIs I g) hs (d_getItem (by have : X.A.units + 1 < cLine := by omega
                                                     exact this) I g ry fun w' s3 I3 rw' => ⟨z, H, I3, rw', k _ _ H p (Same.refl H) e3⟩)
/-- x[i], x a list, a tuple or a dict -/
def wIxA : WP2 := fun x y st Q => match vw st x with
  | .tup ds => ∃ i d, y = .int i ∧ atI ds i = some d ∧ Q d
  | .lst ds => ∃ i d, y = .int i ∧ atI ds i = some d ∧ Q d
  | _ => wIxD x y st Q
theorem rixA (hu : X.A.units + 64 < cLine) : IxR X (lift2 (gd X) wIxA) := by
  intro value slice pins s σ H x y v u Q I rx ry h hs
  obtain ⟨as, st, dx, dy, P, R, qx, qy, w, k⟩ := h
  unfold wIxA at w
  split at w
  · rename_i ds e
    obtain ⟨i, d, ey, ha, p⟩ := w
    exact rix value slice pins s σ H x y v u Q I rx ry ⟨as, st, dx, dy, P, R, qx, qy, ⟨i, ey, by rw [e]; exact ⟨d, ha, p⟩⟩, k⟩ hs
  · rename_i ds e
    obtain ⟨i, d, ey, ha, p⟩ := w
    exact rix value slice pins s σ H x y v u Q I rx ry ⟨as, st, dx, dy, P, R, qx, qy, ⟨i, ey, by rw [e]; exact ⟨d, ha, p⟩⟩, k⟩ hs
  · exact rixD hu value slice pins s σ H x y v u Q I rx ry ⟨as, st, dx, dy, P, R, qx, qy, w, k⟩ hs
theorem de_ixA {a b : Expr} {da db : DE} {pos : Pos} (hu : X.A.units + 64 < cLine) (ha : DEx X a da) (hb : DEx X b db) (hs : PlainIx b := by exact fun _ _ => rfl) : DEx X (.Subscript a b pos) (dOp wIxA da db) :=
  pe_con' (pe_ix (rixA hu) ha hb hs) fun _ _ _ h => lift_op h

/-! ### in -/
/-- x in y: a list, a tuple, a dict -/
def wIn (neg : Bool) : WP2 := fun x y st Q => match vw st y with
  | .lst ds => sh 64 (vw st x) ∧ sh 64 (.lst ds) ∧ Q (.bl ((ds.any fun z => deq z (vw st x)) != neg))
  | .tup ds => sh 64 (vw st x) ∧ sh 64 (.tup ds) ∧ Q (.bl ((ds.any fun z => deq z (vw st x)) != neg))
  | _ => (∃ ks vs, dvT st y = some (ks, vs) ∧ isKey x ∧ Q (.bl ((lookD ks vs x).isSome != neg))) ∨ (∃ ks vs, dvS st y = some (ks, vs) ∧ isKeyS x ∧ Q (.bl ((lookD ks vs x).isSome != neg)))
theorem xor_false (b : Bool) : (b != false) = b := by cases b <;> rfl
theorem xor_true (b : Bool) : (b != true) = !b := by cases b <;> rfl
theorem room_in {d : D} (hs : sh 64 d) {n : Nat} {A : Around} (hu : A.units + 80 < cLine) : A.units + 1 + min n (py d).depth < cLine := by
  have := hs.2
  omega
theorem tup_reads {pins : List (Addr × Obj)} {σ : L2.St} {H : Hp} {s : Shared} {as : List Addr} (I : L2.Inv X pins σ H s) {y : V} {u : Value} {ds : List D} (qy : Rep (gd X) H as y (.tup ds)) (ry : RelV y u) (hc : sh 64 (.tup ds)) : ∃ bs, Reads s.heap u (.tuple (pys ds)) bs := by
  have := Dp.reads I _ y u (qy.dp hc.1) ry
  rw [py] at this
  exact this
theorem look_some {G : Gd} {H : Hp} {as : List Addr} {ks vs : List D} {xs : Ents} {x : D} {n : NestedKey} (r : RepEnts G H as ks vs xs) (hx : nkey x = some n) : (atKey xs n).isSome = (lookD ks vs x).isSome := by
  have lk := ents_look r hx
  cases q : atKey xs n with
  | none => rw [q] at lk; rw [lk]; rfl
  | some z => rw [q] at lk; obtain ⟨d, v, e, _⟩ := lk; rw [e]; rfl
theorem kv_some {G : Gd} {H : Hp} {as : List Addr} {ks vs : List D} {xs : List (Key × V)} {x : D} {n : Key} (r : RepKV G H as ks vs xs) (hx : keyD x = some n) : (valV xs n).isSome = (lookD ks vs x).isSome := by
  have lk := kv_look r hx
  cases q : valV xs n with
  | none => rw [q] at lk; rw [lk]; rfl
  | some z => rw [q] at lk; obtain ⟨d, e, _⟩ := lk; rw [e]; rfl
theorem ro_in (hu : X.A.units + 80 < cLine) : OpR X (compareOp .In) (lift2 (gd X) (wIn false)) := by
  intro pins s σ H x y v u Q I rx ry h
  obtain ⟨as, st, dx, dy, P, R, qx, qy, w, k⟩ := h
  unfold wIn at w
  split at w
  · rename_i ds e
    obtain ⟨h1, h2, p⟩ := w
    rw [xor_false] at p
    exact ro_inL (by omega) pins s σ H x y v u Q I rx ry ⟨as, st, dx, dy, P, R, qx, qy, ⟨ds, e, h1, h2, p⟩, k⟩
  · rename_i ds e
    obtain ⟨h1, h2, p⟩ := w
    rw [xor_false] at p
    have e := vw_tup e
    subst e
    obtain ⟨bs, r2⟩ := tup_reads I qy ry h2
    obtain ⟨as', r1⟩ := Dp.reads I _ x v (rep_dp R qx h1.1) rx
    refine SeqAt.in_tuple_reads r2 r1 (by simpa [py, PyData.canLay0] using h2.1) h1.1 (room_in h1 hu) ⟨.bl _, H, I, rfl, ?_⟩
    rw [any_py]
    exact k _ _ H p (Same.refl H) (.bl _)
  · rcases w with ⟨ks, vs, e, hk, p⟩ | ⟨ks, vs, e, ⟨n, hk⟩, p⟩
    · rw [xor_false] at p
      obtain ⟨a, xs, rfl, hd, hm, hz, ra⟩ := rep_dct R qy e
      obtain ⟨b, n, rfl, hn, hdp⟩ := key_rep qx hk
      cases rx; cases ry
      refine wpAny_in_heap (room8 (by omega)) ⟨nested_of I qx hn rfl, hdp⟩ hm (Inv_dict I hd ra) ⟨.bl _, H, I.tok _, rfl, ?_⟩
      rw [look_some ra hn]
      exact k _ _ H p (Same.refl H) (.bl _)
    · rw [xor_false] at p
      obtain ⟨a, kvs, rfl, hd, ra⟩ := rep_dcs R qy e
      cases ry
      have ev := kV_keyD qx hk
      subst ev
      refine d_in (by omega) I (.inl ⟨kvs, n, hd, rfl, rfl⟩) rx fun s3 I3 => ⟨.bl _, H, I3, rfl, ?_⟩
      rw [kv_some ra hk]
      exact k _ _ H p (Same.refl H) (.bl _)
theorem ro_notIn (hu : X.A.units + 80 < cLine) : OpR X (compareOp .NotIn) (lift2 (gd X) (wIn true)) := by
  intro pins s σ H x y v u Q I rx ry h
  obtain ⟨as, st, dx, dy, P, R, qx, qy, w, k⟩ := h
  unfold wIn at w
  split at w
  · rename_i ds e
    obtain ⟨h1, h2, p⟩ := w
    rw [xor_true] at p
    exact ro_notInL (by omega) pins s σ H x y v u Q I rx ry ⟨as, st, dx, dy, P, R, qx, qy, ⟨ds, e, h1, h2, p⟩, k⟩
  · rename_i ds e
    obtain ⟨h1, h2, p⟩ := w
    rw [xor_true] at p
    have e := vw_tup e
    subst e
    obtain ⟨bs, r2⟩ := tup_reads I qy ry h2
    obtain ⟨as', r1⟩ := Dp.reads I _ x v (rep_dp R qx h1.1) rx
    refine SeqAt.notIn_tuple_reads r2 r1 (by simpa [py, PyData.canLay0] using h2.1) h1.1 (room_in h1 hu) ⟨.bl _, H, I, rfl, ?_⟩
    rw [any_py]
    exact k _ _ H p (Same.refl H) (.bl _)
  · rcases w with ⟨ks, vs, e, hk, p⟩ | ⟨ks, vs, e, ⟨n, hk⟩, p⟩
    · rw [xor_true] at p
      obtain ⟨a, xs, rfl, hd, hm, hz, ra⟩ := rep_dct R qy e
      obtain ⟨b, n, rfl, hn, hdp⟩ := key_rep qx hk
      cases rx; cases ry
      have dd := Inv_dict I hd ra
      refine notIn_keyed (room8 (by omega)) ⟨nested_of I qx hn rfl, hdp⟩ hm ⟨xs, dd, rfl⟩ ⟨.bl _, H, I.tok _, rfl, ?_⟩
      rw [valueAt_pairsH, Option.isSome_map, look_some ra hn]
      exact k _ _ H p (Same.refl H) (.bl _)
    · rw [xor_true] at p
      obtain ⟨a, kvs, rfl, hd, ra⟩ := rep_dcs R qy e
      cases ry
      have ev := kV_keyD qx hk
      subst ev
      refine d_notIn (by omega) I (.inl ⟨kvs, n, hd, rfl, rfl⟩) rx fun s3 I3 => ⟨.bl _, H, I3, rfl, ?_⟩
      rw [kv_some ra hk]
      exact k _ _ H p (Same.refl H) (.bl _)
end
end BB
set_option maxRecDepth 100000
/-! The data layer, 9: dicts made, stored to, copied, walked; isinstance; tuples turned about. -/
namespace BB
open PySem PySem.Spec PyProof.Rows L2

section
variable {X : Cx}
theorem RelV.exU (v : V) : ∃ u, RelV v u := by
  cases v with
  | non => exact ⟨_, rfl⟩
  | bl b => exact ⟨_, rfl⟩
  | int i => exact ⟨.int i 0, 0, rfl⟩
  | str x => exact ⟨.str x 0, 0, rfl⟩
  | byt b => exact ⟨.bytes b 0, 0, rfl⟩
  | flt b => exact ⟨.float b 0, 0, rfl⟩
  | ref a => exact ⟨_, rfl⟩
  | ty n => exact ⟨_, rfl⟩
/-! ### d[k] = v -/
def wSetT : WPS := fun x y d st P => ∃ j ks vs, x = .ptr j ∧ st[j]? = some (.dct ks vs) ∧ isKey y ∧ ks.length < sizeLine ∧ P (st.set j (.dct (putD ks vs y d).1 (putD ks vs y d).2))
theorem ps_setT (hu : X.A.units + 64 < cLine) : PSet X (liftSet (gd X) wSetT) := by
  intro pins s σ H o i v ov iv u Q I ro ri rv h
  obtain ⟨as, st, dox, di, dv, P, R, qo, qi, qv, ⟨j, ks, vs, ex, e, hk, hz, p⟩, k⟩ := h
  subst ex
  cases qo with
  | ptr ha =>
    rename_i a
    cases ro
    obtain ⟨xs, e1, hm, hlen, ra⟩ := R.ok j _ a e ha
    obtain ⟨b, n, rfl, hn, hdp⟩ := key_rep qi hk
    cases ri
    have dd := Inv_dict I (.inl e1) ra
    have hnd : (xs.map (·.1)).Nodup := dd.nodup
    refine wpAny_setItem_heap (hsz := hlen) (room8 hu) ⟨nested_of I qi hn rfl, hdp⟩ dd fun h' dd' hs => ?_
    have fr : Frm as H as (upd H a (dHO (gd X) a (storedH xs n b u))) := .cell (List.mem_of_getElem? ha) e1 trivial
    have hz' : (storedH xs n b u).length ≤ sizeLine := by
      have h1 := storedH_length xs n b u
      have h2 := (ra.length).1
      omega
    obtain ⟨ob, _, _, hob, _⟩ := id dd'
    refine ⟨_, I.write (x := a) (e := a) (t' := s.toks + (nestedKind X.prog X.w).draws n) (o := dHO (gd X) a (storedH xs n b u)) (by rw [e1]; trivial) (.inl rfl) (fun c q hc z => (hs.2 c hc).trans z) ⟨_, hob⟩ (dictOfH_ok dd'), ?_⟩
    exact k _ as _ p (R.write ha e1 trivial ⟨_, upd_same, hm, hz', ents_put (ra.frm fr) hnd hn hdp (qi.frm fr) rv (qv.frm fr)⟩) fr
def wSetS : WPS := fun x y d st P => ∃ j ks vs, x = .ptr j ∧ st[j]? = some (.dcs ks vs) ∧ isKeyS y ∧ ks.length < sizeLine ∧ P (st.set j (.dcs (putD ks vs y d).1 (putD ks vs y d).2))
theorem dk_nodup {pins : List (Addr × Obj)} {σ : L2.St} {H : Hp} {s : Shared} (I : L2.Inv X pins σ H s) {a : Addr} {kvs : List (Key × V)} (h : Rd H a (.dK kvs)) : (kvs.map (·.1)).Nodup := by
  obtain ⟨z, hd, vs, rel, dd⟩ := dk_rd I.hok h
  rw [rel.keys]
  obtain ⟨_, _, _, _, _, _, _, _, hn⟩ := dd
  exact hn
theorem ps_setS (hu : X.A.units + 64 < cLine) : PSet X (liftSet (gd X) wSetS) := by
  intro pins s σ H o i v ov iv u Q I ro ri rv h
  obtain ⟨as, st, dox, di, dv, P, R, qo, qi, qv, ⟨j, ks, vs, ex, e, ⟨n, hk⟩, hz, p⟩, k⟩ := h
  subst ex
  cases qo with
  | ptr ha =>
    rename_i a
    cases ro
    obtain ⟨kvs, e1, ra⟩ := R.ok j _ a e ha
    have ev := kV_keyD qi hk
    subst ev
    have hnd := dk_nodup I (.inl e1)
    have hl : kvs.length < sizeLine := by rw [← ra.length.1]; exact hz
    have fr : Frm as H as (upd H a (.dK (putK kvs n v))) := .cell (List.mem_of_getElem? ha) e1 trivial
    refine d_setItem (by omega) I (.inl ⟨kvs, n, e1, rfl, hl, rfl⟩) ri rv fun s' I' => ⟨_, I', k _ as _ p ?_ fr⟩
    exact R.write ha e1 trivial ⟨_, upd_same, kv_put (ra.frm fr) hnd hk (qv.frm fr)⟩
/-- x[i] = v: a cell's list, a cell's dict -/
def wSetA : WPS := fun x y d st P => match x with
  | .ptr j => (match st[j]? with
    | some (.lst _) => wSetL x y d st P
    | some (.dct _ _) => wSetT x y d st P
    | some (.dcs _ _) => wSetS x y d st P
    | _ => False)
  | _ => False
theorem ps_setA (hu : X.A.units + 64 < cLine) : PSet X (liftSet (gd X) wSetA) := by
  intro pins s σ H o i v ov iv u Q I ro ri rv h
  obtain ⟨as, st, dox, di, dv, P, R, qo, qi, qv, w, k⟩ := h
  unfold wSetA at w
  split at w
  · rename_i j
    split at w
    · exact ps_setL pins s σ H o i v ov iv u Q I ro ri rv ⟨as, st, _, di, dv, P, R, qo, qi, qv, w, k⟩
    · exact ps_setT hu pins s σ H o i v ov iv u Q I ro ri rv ⟨as, st, _, di, dv, P, R, qo, qi, qv, w, k⟩
    · exact ps_setS hu pins s σ H o i v ov iv u Q I ro ri rv ⟨as, st, _, di, dv, P, R, qo, qi, qv, w, k⟩
    · exact w.elim
  · exact w.elim

/-! ### d.get(k, x) -/
def isDi (st : List Cell) (x : D) : Prop := (∃ ks vs, dvT st x = some (ks, vs)) ∨ ∃ ks vs, dvS st x = some (ks, vs)
def wGet (x k z : D) (st : List Cell) (Q : D → Prop) : Prop := (∃ ks vs, dvT st x = some (ks, vs) ∧ isKey k ∧ Q ((lookD ks vs k).getD z)) ∨ ∃ ks vs, dvS st x = some (ks, vs) ∧ isKeyS k ∧ Q ((lookD ks vs k).getD z)
def dGet2 (a b c : DE) : DE := fun ρ Q => a ρ fun x ρ1 => isDi ρ1.st x ∧ b ρ1 fun y ρ2 => c ρ2 fun z ρ3 => wGet x y z ρ3.st fun r => Q r ρ3
theorem isDi_at {pins : List (Addr × Obj)} {σ : L2.St} {H : Hp} {s : Shared} {as : List Addr} {st : List Cell} (I : L2.Inv X pins σ H s) (R : RepSt (gd X) H as st) {x : D} {v : V} (r : Rep (gd X) H as v x) (h : isDi st x) :
    ∃ a, v = .ref a ∧ s.TypeIs (.ref a) "dict" ∧ (∀ b, Value.ref a = .ref b → ∃ ob, s.heap.get? b = some ob ∧ ob.dict = none) := by
  rcases h with ⟨ks, vs, e⟩ | ⟨ks, vs, e⟩
  · obtain ⟨a, xs, rfl, hd, hm, hz, ra⟩ := rep_dct R r e
    have dd := Inv_dict I hd ra
    refine ⟨a, rfl, dd.typeIs, fun b q => ?_⟩
    cases q
    obtain ⟨ob, _, _, h1, h2, _⟩ := dd
    exact ⟨ob, h1, h2.2.1⟩
  · obtain ⟨a, kvs, rfl, hd, ra⟩ := rep_dcs R r e
    obtain ⟨t1, t2, _⟩ := isD_at I (.inl ⟨kvs, hd⟩)
    exact ⟨a, rfl, t1, t2⟩
theorem de_get2 {o e f : Expr} {apos cpos : Pos} {da db dc : DE} (hu : X.A.units + 64 < cLine) (ho : DEx X o da) (he : DEx X e db) (hf : DEx X f dc) (m : M2 X o "get" apos e f cpos) : DEx X (.Call (.Attribute o "get" apos) [e, f] [] cpos) (dGet2 da db dc) := ⟨fun pins s σ H Q I ⟨as, ρ, P, R, w, k⟩ => by
  refine wpAny_Call_method m.base m.few m.line PySem.F.plainAttrs_dict PySem.F.slot_dict_get PySem.F.type_dict_get (thn (PE.run ho pins s σ H (fun x H1 => ∃ as1 ρ1 dx, RepS (gd X) H1 as1 σ ρ1 ∧ Rep (gd X) H1 as1 x dx ∧ Frm as H as1 H1 ∧ isDi ρ1.st dx ∧ db ρ1 fun y ρ2 => dc ρ2 fun z ρ3 => wGet dx y z ρ3.st fun r => P r ρ3) I ⟨as, ρ, _, R, w, fun x ρ1 as1 v1 H1 w1 R1 r1 f1 => ⟨as1, ρ1, x, R1, r1, f1, w1.1, w1.2⟩⟩) fun u s1 ⟨x, H1, I1, rx, as1, ρ1, dx, R1, r1, f1, isd, w1⟩ => ?_)
  obtain ⟨a, rfl, t1, t2⟩ := isDi_at I1 R1.st r1 isd
  cases rx
  refine ⟨t1, t2, ?_⟩
  rw [m.trees]
  refine Calls.callWith_builtin rfl (Calls.evalArgs_plain (Calls.spliced_cons (thn (PE.run he pins s1 σ H1 (fun y H2 => ∃ as2 ρ2 dy, RepS (gd X) H2 as2 σ ρ2 ∧ Rep (gd X) H2 as2 y dy ∧ Frm as1 H1 as2 H2 ∧ dc ρ2 fun z ρ3 => wGet dx dy z ρ3.st fun r => P r ρ3) I1 ⟨as1, ρ1, _, R1, w1, fun y ρ2 as2 v2 H2 w2 R2 r2 f2 => ⟨as2, ρ2, y, R2, r2, f2, w2⟩⟩) fun iv s2 ⟨y, H2, I2, ry, as2, ρ2, dy, R2, r2, f2, w2⟩ =>
    Calls.spliced_cons (thn (PE.run hf pins s2 σ H2 (fun z H3 => ∃ as3 ρ3 dz, RepS (gd X) H3 as3 σ ρ3 ∧ Rep (gd X) H3 as3 z dz ∧ Frm as2 H2 as3 H3 ∧ wGet dx dy dz ρ3.st fun r => P r ρ3) I2 ⟨as2, ρ2, _, R2, w2, fun z ρ3 as3 v3 H3 w3 R3 r3 f3 => ⟨as3, ρ3, z, R3, r3, f3, w3⟩⟩) fun fv s3 ⟨z, H3, I3, rz, as3, ρ3, dz, R3, r3, f3, w3⟩ => Calls.spliced_nil ?_))))
  have f13 := (f1.trans f2).trans f3
  have qx := r1.frm (f2.trans f3)
  have qy := r2.frm f3
  rcases w3 with ⟨ks, vs, e, hk, p⟩ | ⟨ks, vs, e, ⟨n, hk⟩, p⟩
  · obtain ⟨a', xs, ea, hd, hm, hz, ra⟩ := rep_dct R3.st qx e
    cases ea
    obtain ⟨b, n, rfl, hn, hdp⟩ := key_rep qy hk
    cases ry
    refine getOr_keyed (room8 hu) ⟨nested_of I3 qy hn rfl, hdp⟩ hm ⟨xs, Inv_dict I3 hd ra, rfl⟩ ?_
    have lk := ents_look ra hn
    rw [valueAt_pairsH]
    cases q : atKey xs n with
    | none =>
      rw [q] at lk
      rw [lk] at p
      exact ⟨z, H3, I3.tok _, rz, k _ ρ3 as3 _ H3 p R3 r3 f13⟩
    | some pr =>
      rw [q] at lk
      obtain ⟨d', v', e1, e2, e3⟩ := lk
      rw [e1] at p
      exact ⟨v', H3, I3.tok _, e2, k _ ρ3 as3 _ H3 p R3 e3 f13⟩
  · obtain ⟨a', kvs, ea, hd, ra⟩ := rep_dcs R3.st qx e
    cases ea
    have ev := kV_keyD qy hk
    subst ev
    refine d_get2 (by omega) I3 (.inl ⟨kvs, n, hd, rfl, rfl⟩) ry rz fun w' s4 I4 rw' => ⟨_, H3, I4, rw', ?_⟩
    have lk := kv_look ra hk
    cases q : valV kvs n with
    | none =>
      rw [q] at lk
      rw [lk] at p
      exact k _ ρ3 as3 _ H3 p R3 r3 f13
    | some z' =>
      rw [q] at lk
      obtain ⟨d', e1, e3⟩ := lk
      rw [e1] at p
      exact k _ ρ3 as3 _ H3 p R3 e3 f13⟩

/-! ### displays -/
/-- {}: a new cell, keys to be tuples -/
def dNewT : DE := fun ρ Q => Q (.ptr ρ.st.length) ⟨ρ.sl, ρ.st ++ [.dct [] []]⟩
def dNewS : DE := fun ρ Q => Q (.ptr ρ.st.length) ⟨ρ.sl, ρ.st ++ [.dcs [] []]⟩
theorem big_ne {pins : List (Addr × Obj)} {σ : L2.St} {H : Hp} {s : Shared} (I : L2.Inv X pins σ H s) {a : Addr} (h : s.heap.objs.size ≤ a) : (a == sysModules) = false :=
  beq_eq_false_iff_ne.mpr (Nat.ne_of_gt (Nat.lt_of_lt_of_le I.big h))
theorem de_newT {pos : Pos} : DEx X (.Dict [] [] pos) dNewT := ⟨fun pins s σ H Q I ⟨as, ρ, P, R, w, k⟩ => by
  have hn := I.hok.fresh (Nat.le_refl s.heap.objs.size)
  refine wpAny_Dict_empty ⟨.ref s.heap.objs.size, _, I.laid (a := s.heap.objs.size) (o := dHO (gd X) s.heap.objs.size []) (t' := s.toks) (fun _ _ q => Heap.get?_push_of_some _ q) (Nat.le_refl _) (dictOfH_ok (Heap.DictOfH.new s.heap)), rfl, ?_⟩
  have hl : (as ++ [s.heap.objs.size])[ρ.st.length]? = some s.heap.objs.size := by rw [← R.st.len, List.getElem?_append_right (Nat.le_refl _)]; simp
  exact k _ _ _ _ _ w (R.alloc (c := .dct [] []) hn ⟨[], upd_same, big_ne I (Nat.le_refl _), Nat.zero_le _, .nil⟩) (.ptr hl) (.alloc as hn)⟩
theorem de_newS {pos : Pos} : DEx X (.Dict [] [] pos) dNewS := pe_con' pe_dnewK fun σ H Q ⟨as, ρ, P, R, w, k⟩ p hp => by
  have hl : (as ++ [p])[ρ.st.length]? = some p := by rw [← R.st.len, List.getElem?_append_right (Nat.le_refl _)]; simp
  exact k _ _ _ _ _ w (R.alloc (c := .dcs [] []) hp ⟨[], upd_same, .nil⟩) (.ptr hl) (.alloc as hp)
/-- {k: v}, k a tuple: by its own address -/
def tOneT (G : Gd) (tk tv : TE) : TE := fun σ H Q => ∀ p, H p = none → (p == sysModules) = false → tk σ (upd H p (dHO G p [])) fun x H1 => tv σ H1 fun y H2 => H2 p = some (dHO G p []) ∧
  ∃ as k n b, x = .ref b ∧ Rep G H2 as x k ∧ nkey k = some n ∧ n.depth ≤ 8 ∧ ∀ u, RelV y u → Q (.ref p) (upd H2 p (dHO G p [(n, b, u)]))
theorem pe_oneT {ke ve : Expr} {tk tv : TE} {pos : Pos} (hu : X.A.units + 64 < cLine) (hk : PE X ke tk) (hv : PE X ve tv) : PE X (.Dict [some ke] [ve] pos) (tOneT (gd X) tk tv) := ⟨fun pins s σ H Q I q => by
  have hn := I.hok.fresh (Nat.le_refl s.heap.objs.size)
  have I1 := I.laid (a := s.heap.objs.size) (o := dHO (gd X) s.heap.objs.size []) (h' := s.heap.push { cls := .type "dict", data := .dict #[] }) (t' := s.toks) (fun _ _ q => Heap.get?_push_of_some _ q) (Nat.le_refl _) (dictOfH_ok (Heap.DictOfH.new s.heap))
  have q := q s.heap.objs.size hn (big_ne I (Nat.le_refl _))
  have key : wpAny (model X.prog X.w) X.A (evalPairs (pairTrees [some ke] [ve] X.env pos)) (fun vs s₁ => ∃ ps, CarriesH (nestedKind X.prog X.w) s₁.heap vs ps ∧ s₁.heap.DictOfH (nestedKind X.prog X.w) s.heap.objs.size [] ∧
      ∀ h' tk, h'.DictOfH (nestedKind X.prog X.w) s.heap.objs.size (storedAllH [] ps) → Heap.SameBut s.heap.objs.size s₁.heap h' → EP X pins σ Q (.ref s.heap.objs.size) { s₁ with heap := h', toks := tk }) X.xe { s with heap := s.heap.push { cls := .type "dict", data := .dict #[] } } := by
    refine pairTrees_cons_walk (thn (hk.run pins _ σ _ _ I1 q) fun u s1 ⟨x, H1, I1, rx, q1⟩ => thn (hv.run pins s1 σ H1 _ I1 q1) fun w2 s2 ⟨y, H2, I2, ry, hp, as, k, n, b, ex, rk, hkn, hdp, q2⟩ => pairTrees_nil_walk ?_)
    subst ex
    cases rx
    have dd := Inv_dict (ks := []) (vs := []) (as := as) I2 (.inl hp) .nil
    refine ⟨[(n, b, w2)], ⟨rfl, rfl, ⟨nested_of I2 rk hkn rfl, hdp⟩, trivial⟩, dd, fun h' tk dd' hs => ?_⟩
    have e1 : storedAllH ([] : Ents) [(n, b, w2)] = [(n, b, w2)] := storedAllH_nil_of_nodup _ (by simp)
    rw [e1] at dd'
    obtain ⟨ob, _, _, hob, _⟩ := id dd'
    exact ⟨.ref s.heap.objs.size, _, I2.write (x := s.heap.objs.size) (e := s.heap.objs.size) (t' := tk) (o := dHO (gd X) s.heap.objs.size [(n, b, w2)]) (by rw [hp]; trivial) (.inl rfl) (fun c q hc z => (hs.2 c hc).trans z) ⟨_, hob⟩ (dictOfH_ok dd'), rfl, q2 w2 ry⟩
  rw [arm_eval_Dict, show (evalEachOpt [some ke] X.env).zip ((evalEach [ve] X.env).map fun v => do let x ← v; standAt pos; pure x) = (pairTrees [some ke] [ve] X.env pos).map fun p => (some p.1, p.2) from rfl, dictDisplay_pairs _ (by simp [pairTrees]) (by simp [pairTrees])]
  refine wpAny_bind (wpAny_standAt (wpAny_bind (wpAny_subDictH (knd := nestedKind X.prog X.w) (Q := fun d s' => wpAny (model X.prog X.w) X.A (pure (Value.ref d)) (EP X pins σ Q) X.xe s') (by show X.A.units + 8 < cLine; omega) (by simp [pairTrees])
    (wpAny_mono key (fun vs s₁ h₁ => ?_) fun _ _ e => e))))
  obtain ⟨ps, hc, hm, hq⟩ := h₁
  exact ⟨ps, hc, hm, fun h' tk a b => wpAny_pure (hq h' tk a b)⟩⟩
theorem oneT_rep {G : Gd} {H2 : Hp} {as : List Addr} {p b : Addr} {k d : D} {n : NestedKey} {y : V} {u : Value} (hp : H2 p = some (dHO G p [])) (rk : Rep G H2 as (.ref b) k) (hn : nkey k = some n) (hd : n.depth ≤ 8) (ry : Rep G H2 as y d) (ru : RelV y u) (o : HO) :
    RepEnts G (upd H2 p o) as [k] [d] [(n, b, u)] := by
  have g : Frm [p] H2 [p] (upd H2 p o) := .cell (List.mem_singleton.mpr rfl) hp trivial
  exact .cons hn hd (rk.mono g.tups g.frzs (fun _ _ z => z)) ru (ry.mono g.tups g.frzs (fun _ _ z => z)) .nil
/-- what an address apart from the cells does to the rest -/
theorem RepS.apart {G : Gd} {H : Hp} {as : List Addr} {σ : L2.St} {ρ : DS} {p : Addr} {o u : HO} (R : RepS G H as σ ρ) (hp : p ∉ as) (e : H p = some o) (mu : Mut (some o)) : RepS G (upd H p u) as σ ρ := by
  have g : Frm [p] H [p] (upd H p u) := .cell (List.mem_singleton.mpr rfl) e mu
  refine ⟨R.len, fun i d hd => ?_, ⟨R.st.len, R.st.nd, fun j c a hj ha => ?_⟩⟩
  · obtain ⟨v, ev, r⟩ := R.slot i d hd
    exact ⟨v, ev, r.mono g.tups g.frzs (fun _ _ z => z)⟩
  · have hne : a ≠ p := fun z => hp (by rw [← z]; exact List.mem_of_getElem? ha)
    exact (R.st.ok j c a hj ha).up (fun o e => by rw [upd_ne hne]; exact e) fun v d r => r.mono g.tups g.frzs (fun _ _ z => z)
/-- an address that was free ahead, changed behind -/
theorem Frm.apart {as as' : List Addr} {H H' : Hp} {p : Addr} {o u : HO} (f : Frm as H as' H') (hp : H p = none) (e : H' p = some o) (mu : Mut (some o)) : Frm as H as' (upd H' p u) := by
  have g : Frm [p] H' [p] (upd H' p u) := .cell (List.mem_singleton.mpr rfl) e mu
  refine ⟨f.pre, fun b xs hb => g.tups b xs (f.tups b xs hb), fun b o u hb => g.frzs b o u (f.frzs b o u hb), fun b o hb hn => ?_, fun b hb => g.live b (f.live b hb)⟩
  have hne : b ≠ p := fun z => by rw [z, hp] at hb; cases hb
  rw [upd_ne hne]
  exact f.keep b o hb hn
theorem Frm.under {as as' : List Addr} {H H' : Hp} {p : Addr} {o : HO} (f : Frm as (upd H p o) as' H') (hp : H p = none) (hno : p ∉ as') : Frm as H as' H' := by
  have s : Same H (upd H p o) := Same.upd hp
  refine ⟨?_, fun b xs hb => f.tups b xs (s _ _ hb), fun b o u hb => f.frzs b o u (s _ _ hb), fun b o hb hn => f.keep b o (s _ _ hb) hn, fun b hb => f.live b ?_⟩
  · obtain ⟨more, e, hn⟩ := f.pre
    refine ⟨more, e, fun a ha => ?_⟩
    have := hn a ha
    have hne : a ≠ p := fun z => hno (by rw [e, ← z]; exact List.mem_append_right _ ha)
    rw [upd_ne hne] at this
    exact this
  · by_cases z : b = p
    · rw [z, upd_same]; exact fun q => nomatch q
    · rw [upd_ne z]; exact hb
theorem notin_grow {as as' : List Addr} {H H' : Hp} {p : Addr} {o : HO} (f : Frm as H as' H') (hp : p ∉ as) (e : H p = some o) : p ∉ as' := by
  obtain ⟨more, em, hn⟩ := f.pre
  rw [em]
  intro hm
  rcases List.mem_append.mp hm with hm | hm
  · exact hp hm
  · rw [hn p hm] at e; cases e
def dOneT (kd vd : DE) : DE := fun ρ Q => kd ρ fun k ρ1 => vd ρ1 fun v ρ2 => isKey k ∧ Q (.ptr ρ2.st.length) ⟨ρ2.sl, ρ2.st ++ [.dct [k] [v]]⟩
theorem de_oneT {ke ve : Expr} {kd vd : DE} {pos : Pos} (hu : X.A.units + 64 < cLine) (hk : DEx X ke kd) (hv : DEx X ve vd) : DEx X (.Dict [some ke] [ve] pos) (dOneT kd vd) := pe_con' (pe_oneT hu hk hv) fun σ H Q ⟨as, ρ, P, R, w, k⟩ p hp hm => by
  have s0 : Same H (upd H p (dHO (gd X) p [])) := Same.upd hp
  refine ⟨as, ρ, _, R.same s0, w, fun x ρ1 as1 v1 H1 w1 R1 r1 f1 => ⟨as1, ρ1, _, R1, w1, fun y ρ2 as2 v2 H2 w2 R2 r2 f2 => ?_⟩⟩
  have f12 := f1.trans f2
  have hno : p ∉ as2 := notin_grow f12 (R.st.notin hp) upd_same
  have e2 : H2 p = some (dHO (gd X) p []) := f12.keep _ _ upd_same (R.st.notin hp)
  obtain ⟨ik, w2⟩ := w2
  obtain ⟨b, n, rfl, hn, hdp⟩ := key_rep r1 ik
  refine ⟨e2, as2, x, n, b, rfl, r1.frm f2, hn, hdp, fun u ru => ?_⟩
  have ff : Frm as H as2 (upd H2 p (dHO (gd X) p [(n, b, u)])) := (f12.under hp hno).apart hp e2 trivial
  have RR : RepS (gd X) (upd H2 p (dHO (gd X) p [(n, b, u)])) as2 σ ρ2 := R2.apart hno e2 trivial
  have ents := oneT_rep e2 (r1.frm f2) hn hdp r2 ru (dHO (gd X) p [(n, b, u)])
  -- p becomes a cell
  have pre : ∀ (j : Nat) (a : Addr), as2[j]? = some a → (as2 ++ [p])[j]? = some a := fun j a h => by rw [List.getElem?_append_left (List.getElem?_eq_some_iff.mp h).1]; exact h
  have up : ∀ v d, Rep (gd X) (upd H2 p (dHO (gd X) p [(n, b, u)])) as2 v d → Rep (gd X) (upd H2 p (dHO (gd X) p [(n, b, u)])) (as2 ++ [p]) v d := fun v d r => r.mono (fun _ _ z => z) (fun _ _ _ z => z) pre
  have hl : (as2 ++ [p])[ρ2.st.length]? = some p := by rw [← R2.st.len, List.getElem?_append_right (Nat.le_refl _)]; simp
  refine k _ ⟨ρ2.sl, ρ2.st ++ [.dct [x] [y]]⟩ (as2 ++ [p]) _ _ w2 ⟨RR.len, fun i d hd => ?_, ⟨by simp [RR.st.len], ?_, fun j c a hj ha => ?_⟩⟩ (.ptr hl) ?_
  · obtain ⟨v, ev, r⟩ := RR.slot i d hd
    exact ⟨v, ev, up _ _ r⟩
  · rw [List.nodup_append]
    refine ⟨R2.st.nd, by simp, fun x hx y hy z => ?_⟩
    rw [List.mem_singleton.mp hy] at z
    exact hno (by rw [← z]; exact hx)
  · by_cases hlt : j < ρ2.st.length
    · rw [List.getElem?_append_left hlt] at hj
      rw [List.getElem?_append_left (by rw [R2.st.len]; exact hlt)] at ha
      exact (RR.st.ok j c a hj ha).up (fun _ e => e) up
    · have hj' : j = ρ2.st.length := by
        have := (List.getElem?_eq_some_iff.mp hj).1
        simp at this
        omega
      subst hj'
      rw [List.getElem?_append_right (Nat.le_refl _)] at hj
      rw [List.getElem?_append_right (by rw [R2.st.len]; exact Nat.le_refl _), R2.st.len] at ha
      simp at hj ha
      subst hj; subst ha
      exact ⟨_, upd_same, hm, by show 1 ≤ sizeLine; decide, ents.up up⟩
  · refine ⟨?_, ff.tups, ff.frzs, ff.keep, ff.live⟩
    obtain ⟨more, e, hn⟩ := ff.pre
    refine ⟨more ++ [p], by rw [e, List.append_assoc], fun a ha => ?_⟩
    rcases List.mem_append.mp ha with ha | ha
    · exact hn a ha
    · rw [List.mem_singleton.mp ha]; exact hp

/-! ### dict(d): a copy -/
def apartD (w : World) (ks : List D) : Prop := (ks.map fun k => (nkey k).map fun n => n.hash w).Nodup
theorem ents_hash {G : Gd} {H : Hp} {as : List Addr} : ∀ {ks vs : List D} {xs : Ents}, RepEnts G H as ks vs xs → ks.map (fun k => (nkey k).map fun n => n.hash G.w) = (xs.map fun x => (nestedKind G.P G.w).hash x.1).map some
  | _, _, _, .nil => rfl
  | _, _, _, .cons h1 _ _ _ _ r => by
    rw [List.map_cons, List.map_cons, List.map_cons, ents_hash r, h1]
    rfl
theorem call_dictH {pins : List (Addr × Obj)} {σ : L2.St} {H : Hp} {s : Shared} {as : List Addr} {Q : Value → Shared → Prop} {o : Addr} {xs : Ents} {ks vs : List D} (hu : X.A.units + 64 < cLine) (I : L2.Inv X pins σ H s) (hoS : (o == sysModules) = false) (hd : Rd H o (dHO (gd X) o xs)) (ra : RepEnts (gd X) H as ks vs xs) (hsz : xs.length ≤ sizeLine) (hap : apartD X.w ks)
    (h : ∀ h', h'.DictOfH (nestedKind X.prog X.w) s.heap.objs.size xs → (∀ b ob, s.heap.get? b = some ob → h'.get? b = some ob) → Q (.ref s.heap.objs.size) { s with heap := h' }) :
    wpAny (model X.prog X.w) X.A (call (.type "dict") [.ref o]) Q X.xe s := by
  have ho := Inv_dict I hd ra
  refine callType_codes (Q₁ := fun obj s₁ => obj = .ref s.heap.objs.size ∧ s₁ = { s with heap := s.heap.push { cls := .type "dict", data := .dict #[] } }) PySem.F.kt_called_dict (PySem.F.kt_typeCall_dict_1 _) PySem.F.entry_dict_init (kt_code_dict_new _ ⟨rfl, rfl⟩) ?_
  rintro obj s₁ ⟨rfl, rfl⟩
  have kp : ∀ b ob, s.heap.get? b = some ob → (s.heap.push { cls := .type "dict", data := .dict #[] }).get? b = some ob := fun b ob e => Heap.get?_push_of_some _ e
  have hnew : (s.heap.push { cls := .type "dict", data := .dict #[] }).DictOfH (nestedKind X.prog X.w) s.heap.objs.size [] := Heap.DictOfH.new s.heap
  have ho' : (s.heap.push { cls := .type "dict", data := .dict #[] }).DictOfH (nestedKind X.prog X.w) o xs := by
    obtain ⟨ob, es, ep, h1, h2, h3, h4, h5, h6⟩ := ho
    exact ⟨ob, es, ep, kp _ _ h1, h2, h3, h4, fun x hx => nestedKind_stays.stays (fun b ob _ _ e _ => kp b ob e) (h5 x hx), h6⟩
  have hdo : s.heap.objs.size ≠ o := by
    obtain ⟨_, _, _, hg, _⟩ := ho
    exact fun e => absurd (Heap.lt_size hg) (by rw [e]; exact Nat.lt_irrefl _)
  have hnd : (xs.map fun x => (nestedKind X.prog X.w).hash x.1).Nodup := by
    unfold apartD at hap
    have e := ents_hash ra
    rw [show (ks.map fun k => (nkey k).map fun n => n.hash X.w) = ks.map (fun k => (nkey k).map fun n => n.hash (gd X).w) from rfl, e] at hap
    exact List.Pairwise.of_map some (fun a b h e => h (by rw [e])) hap
  have hty : ∀ x ∈ xs, Shared.TypeIs { s with heap := s.heap.push { cls := .type "dict", data := .dict #[] } } (.ref x.2.1) "tuple" := by
    have := keyed_apart (s := { s with heap := s.heap.push { cls := .type "dict", data := .dict #[] } }) nestedKind_stays ho'
    exact this
  have hxs : (xs.map (·.1)).Nodup := ho.nodup
  refine ⟨hnew.typeIs, PySem.F.args_dict_init_2 _ _, ?_⟩
  unfold Builtin.«dict.__init__»
  refine wpAny_bind ?_
  unfold Builtin.Dict.selfAndRest
  refine wpAny_bind (wpAny_notOrdered_dict hnew.typeIs ?_)
  show wpAny _ _ (pure (s.heap.objs.size, [Value.ref o])) _ _ _
  refine wpAny_pure ?_
  show wpAny _ _ (Builtin.Dict.updateFrom "dict.__init__" s.heap.objs.size (.ref o) [] .none) _ _ _
  refine updateFrom_dictH (A := X.A.in1) .none (by show X.A.units + 1 + 1 + 8 < cLine; omega) hdo hoS hnew ho' (.inr ⟨hty, hnd⟩) (by simpa using hsz) fun h' d' _ hs => ?_
  rw [storedAllH_nil_of_nodup _ hxs] at d'
  exact ⟨rfl, h h' d' fun b ob e => (hs.2 b (Nat.ne_of_lt (Heap.lt_size e))).trans (kp b ob e)⟩
/-- dict(d) as a frozen dict, as a cell -/
def wDictOf (w : World) : WPn := fun ds st Q => ∃ x ks vs, ds = [x] ∧ dvT st x = some (ks, vs) ∧ apartD w ks ∧ Q (.dct ks vs)
theorem rb_dictOf (hu : X.A.units + 64 < cLine) : CallR X (.type "dict") (liftN (gd X) (wDictOf X.w)) := by
  intro pins s σ H xs us Q I rv h
  obtain ⟨as, st, ds, P, R, r, ⟨x, ks, vs, ed, e, hap, w⟩, k⟩ := h
  subst ed
  cases r with
  | cons r rr =>
    cases rr
    obtain ⟨a, es, rfl, hd, hm, hz, ra⟩ := rep_dct R r e
    rw [Vals.ref1 rv]
    refine call_dictH hu I hm hd ra hz hap fun h' d' kp => ?_
    have hf := I.hok.fresh (Nat.le_refl s.heap.objs.size)
    refine EP.frzD ⟨.ref s.heap.objs.size, upd H s.heap.objs.size (dHO (gd X) s.heap.objs.size es), I.laid (t' := s.toks) kp (Nat.le_refl _) (dictOfH_ok d'), rfl, s.heap.objs.size, es, rfl, upd_same, fun o => ?_⟩
    rw [upd_upd]
    have sm : Same H (upd H s.heap.objs.size (.frz o (dHO (gd X) s.heap.objs.size es))) := Same.upd hf
    exact k _ _ _ w sm (.dct upd_same (big_ne I (Nat.le_refl _)) hz (ra.frm (.same sm)))
/-- .. a cell -/
def dDictNew (w : World) (a : DE) : DE := fun ρ Q => a ρ fun x ρ1 => ∃ ks vs, dvT ρ1.st x = some (ks, vs) ∧ apartD w ks ∧ Q (.ptr ρ1.st.length) ⟨ρ1.sl, ρ1.st ++ [.dct ks vs]⟩
def tDictNew (G : Gd) (ta : TA) : TE := fun σ H Q => ta σ H fun vs H1 => ∃ as st x v ks ws es a, vs = [v] ∧ RepSt G H1 as st ∧ Rep G H1 as v x ∧ dvT st x = some (ks, ws) ∧ apartD G.w ks ∧ v = .ref a ∧ Rd H1 a (dHO G a es) ∧ (a == sysModules) = false ∧ es.length ≤ sizeLine ∧ RepEnts G H1 as ks ws es ∧
  ∀ p, H1 p = none → (p == sysModules) = false → Q (.ref p) (upd H1 p (dHO G p es))
theorem de_dictNew {x : Str} {p pos : Pos} {e : Expr} {d : DE} (hu : X.A.units + 64 < cLine) (hg : Gl X x) (hm : X.mg x = none) (hv : bootBuiltins x = some (.type "dict")) (he : DEx X e d) (hn : x ≠ "__name__" := by decide) (hdb : (x == ("__debug__" : Str)) = false := by decide)
    (hse : starEach [e] X.env = (false, eval e X.env) :: starEach [] X.env := by rfl) (hpl : (backTo pos (starEach [] X.env)).any (·.1) = false := by rfl) : DEx X (.Call (.Name x p) [e] [] pos) (dDictNew X.w d) := by
  have key : CallR X (.type "dict") (fun vs H1 Q => ∃ as st x v ks ws es a, vs = [v] ∧ RepSt (gd X) H1 as st ∧ Rep (gd X) H1 as v x ∧ dvT st x = some (ks, ws) ∧ apartD X.w ks ∧ v = .ref a ∧ Rd H1 a (dHO (gd X) a es) ∧ (a == sysModules) = false ∧ es.length ≤ sizeLine ∧ RepEnts (gd X) H1 as ks ws es ∧
      ∀ p, H1 p = none → (p == sysModules) = false → Q (.ref p) (upd H1 p (dHO (gd X) p es))) := by
    intro pins s σ H xs us Q I rv h
    obtain ⟨as, st, x, v, ks, ws, es, a, rfl, R, r, e, hap, rfl, hd, hm, hz, ra, k⟩ := h
    rw [Vals.ref1 rv]
    refine call_dictH hu I hm hd ra hz hap fun h' d' kp => ?_
    have hf := I.hok.fresh (Nat.le_refl s.heap.objs.size)
    exact ⟨.ref s.heap.objs.size, upd H s.heap.objs.size (dHO (gd X) s.heap.objs.size es), I.laid (t' := s.toks) kp (Nat.le_refl _) (dictOfH_ok d'), rfl, k _ hf (big_ne I (Nat.le_refl _))⟩
  refine pe_con' (pe_callTy key hg hm hv (da_cons he da_nil hse) hn hdb hse hpl) fun σ H Q ⟨as, ρ, P, R, w, k⟩ => ?_
  refine ⟨as, ρ, fun xs ρ' => match xs with
    | [x] => ∃ ks vs, dvT ρ'.st x = some (ks, vs) ∧ apartD X.w ks ∧ P (.ptr ρ'.st.length) ⟨ρ'.sl, ρ'.st ++ [.dct ks vs]⟩
    | _ => False, R, w, fun xs ρ1 as1 vs H1 w1 R1 r1 f1 => ?_⟩
  cases r1 with
  | nil => exact w1.elim
  | cons r rr =>
    cases rr with
    | cons _ _ => exact w1.elim
    | nil =>
      obtain ⟨ks, ws, e, hap, pz⟩ := w1
      obtain ⟨a, es, rfl, hd, hm, hz, ra⟩ := rep_dct R1.st r e
      refine ⟨as1, ρ1.st, _, _, ks, ws, es, a, rfl, R1.st, r, e, hap, rfl, hd, hm, hz, ra, fun p hp hpm => ?_⟩
      have hl : (as1 ++ [p])[ρ1.st.length]? = some p := by rw [← R1.st.len, List.getElem?_append_right (Nat.le_refl _)]; simp
      exact k _ _ _ _ _ pz (R1.alloc (c := .dct ks ws) hp ⟨es, upd_same, hpm, hz, ra.frm (.alloc as1 hp)⟩) (.ptr hl) (f1.trans (.alloc as1 hp))
end
end BB
set_option maxRecDepth 100000
/-! The data layer, 10: d.items(), dict comprehensions, isinstance, tuples turned about. -/
namespace BB
open PySem PySem.Spec PyProof.Rows L2

/-! ### for k, v in d.items() -/
def ItI (G : Gd) (d : Addr) (o : Obj) (xs : Ents) : It :=
  ⟨fun i H => H d = some (.frz o (dHO G d xs)) ∧ ∃ n b u v, xs[i]? = some (n, b, u) ∧ RelV v u,
    fun i H x H' => ∃ T n b u v, xs[i]? = some (n, b, u) ∧ RelV v u ∧ x = .ref T ∧ H T = none ∧ H' = upd H T (.tup [.ref b, v]),
    fun i H => H d = some (.frz o (dHO G d xs)) ∧ xs.length ≤ i⟩
theorem Inv_frzD {X : Cx} {pins : List (Addr × Obj)} {σ : L2.St} {H : Hp} {s : Shared} (I : L2.Inv X pins σ H s) {d : Addr} {o : Obj} {xs : Ents} (h : H d = some (.frz o (dHO (gd X) d xs))) :
    ∃ es ep, s.heap.get? d = some o ∧ o.ExactDict ∧ o.data = .dict es ep ∧ es.toList = xs.map (entryOfKey (nestedKind X.prog X.w)) := by
  obtain ⟨e, ⟨o', es, ep, h1, h2, h3, h4, h5⟩, _⟩ := I.hok d _ h
  rw [e] at h1
  cases h1
  exact ⟨es, ep, e, h2, h3, h4⟩
theorem ents_at {w : World} {P : Program} {es : Array DictEntry} {xs : Ents} (h : es.toList = xs.map (entryOfKey (nestedKind P w))) {i : Nat} {n : NestedKey} {b : Addr} {u : Value} (hx : xs[i]? = some (n, b, u)) : ∃ hi : i < es.size, es[i].key = .ref b ∧ es[i].val = u := by
  have hl : es.size = xs.length := by rw [← Array.length_toList, h, List.length_map]
  have hi : i < es.size := by rw [hl]; exact (List.getElem?_eq_some_iff.mp hx).1
  refine ⟨hi, ?_⟩
  have e : es[i]? = some (entryOfKey (nestedKind P w) (n, b, u)) := by rw [← Array.getElem?_toList, h, List.getElem?_map, hx]; rfl
  rw [Array.getElem?_eq_getElem hi] at e
  have e := Option.some.inj e
  rw [e]
  exact ⟨rfl, rfl⟩
theorem turn_itemsH {P : Program} {w : World} {K : PySem.W.Frag} {d : Addr} {o : Obj} {xs : Ents} {es : Array DictEntry} {ep : Nat} {elts : List Expr} {kk : Nat} {tpos : Pos} (it : Addr) (hod : o.data = .dict es ep) :
    Turn P w K (.Tuple elts kk tpos) (ItI ⟨P, w, K⟩ d o xs) [it] it (fun i h => ∃ ok ov, IsItemIter h it d i es.size ep ok ov) where
  mem := by simp
  obj := fun i h st b hb => by
    have e : b = it := by simpa using hb
    subst e
    obtain ⟨ok, ov, e⟩ := st
    exact ⟨_, e, fun v z => nomatch z⟩
  keep := fun i h h' st k => let ⟨ok, ov, e⟩ := st; ⟨ok, ov, k it (by simp) _ e⟩
  item := by
    intro X hP hw hK hc i pins s σ H E I hf st hg
    subst hP hw hK
    obtain ⟨hd, n, b, u, v, hx, ru⟩ := hg
    obtain ⟨es', ep', ho, hxd, hdt, he⟩ := Inv_frzD I hd
    rw [hod] at hdt
    cases hdt
    obtain ⟨hi, ek, ev⟩ := ents_at he hx
    obtain ⟨ok, ov, hit⟩ := st
    have hlt : it < s.heap.objs.size := Heap.lt_size hit
    refine DT.nextI hit ⟨o, ho, hxd, hod⟩ hi fun h' ho' hT hz hk => ?_
    refine ⟨_, rfl, wpAny_letOwnedTupleGo_items (s := { s with heap := h' }) ho' fun h'' he' sb => ?_⟩
    have hT2 : h''.get? s.heap.objs.size = some { cls := .type "tuple", data := .seq #[.ref b, u] } := by
      rw [ek, ev] at hT
      exact (sb.2 _ (Nat.ne_of_gt hlt)).trans hT
    have new : ObjOk X.prog X.w (upd H s.heap.objs.size (.tup [.ref b, v])) h'' s.heap.objs.size (.tup [.ref b, v]) :=
      ⟨by show 2 ≤ sizeLine; decide, [.ref b, u], .cons rfl (.cons ru .nil), ⟨_, hT2, rfl, _, rfl⟩⟩
    have I1 : L2.Inv X pins σ (upd H s.heap.objs.size (.tup [.ref b, v])) { s with heap := h'' } :=
      I.turnedNew (t' := s.toks) (ch := [it]) (fun b ob hb e => (sb.2 b (by simpa using hb)).trans (hk b ob (by simpa using hb) e)) hf (Nat.le_refl _) new
    refine ⟨.ref s.heap.objs.size, _, I1, rfl, ⟨_, n, b, u, v, hx, ru, rfl, I.hok.fresh (Nat.le_refl _), rfl⟩, ⟨_, _, he'⟩, fun b hb => ?_⟩
    have e : b = it := by simpa using hb
    rw [e, upd_ne (Nat.ne_of_lt hlt)]
    exact (hf it (by simp)).1
  done := by
    intro X hP hw hK hc i pins s σ H E I hf st hg
    subst hP hw hK
    obtain ⟨hd, hi⟩ := hg
    obtain ⟨f0, f1, f2, f3, f4, f5⟩ := hf it (by simp)
    obtain ⟨es', ep', ho, hxd, hdt, he⟩ := Inv_frzD I hd
    rw [hod] at hdt
    cases hdt
    obtain ⟨ok, ov, hit⟩ := st
    have hl : es.size = xs.length := by rw [← Array.length_toList, he, List.length_map]
    exact DT.endI (I.ok.hd hc) hit ⟨o, ho, hxd, hod⟩ (by omega) fun h' eb => ⟨rfl, I.turned (t' := s.toks) (fun b ob hb e => eb b ob hb e) f0 f1 f3 f4 f5⟩
  self := fun A i s Q E st h => let ⟨_, _, e⟩ := st; PySem.W.kcp_self e h
def iItH (G : Gd) (td : TE) : TI := fun σ H R => td σ H fun x H1 => ∃ d o xs, x = .ref d ∧ (d == sysModules) = false ∧ H1 d = some (.frz o (dHO G d xs)) ∧ R (ItI G d o xs) H1
section
variable {X : Cx}
theorem pi_itemsH {e : Expr} {td : TE} {apos cpos : Pos} {elts : List Expr} {kk : Nat} {tpos : Pos} (he : PE X e td) (hbase : attributeBase e "items" X.env (eval e X.env) = eval e X.env := by rfl) (hline : (apos.endLine == cpos.line) = true := by rfl) :
    PI X (.Tuple elts kk tpos) (.Call (.Attribute e "items" apos) [] [] cpos) (iItH (gd X) td) := by
  refine ⟨fun pins s σ H R I h => ?_⟩
  refine wpAny_Call_method (T := "dict") (id := "dict.items") hbase rfl hline PySem.F.plainAttrs_dict PySem.F.slot_dict_items PySem.F.type_dict_items (thn (he.run pins s σ H _ I h) fun u s1 ⟨x, H1, I1, rx, d, o, xs, ex, hs, hd, q⟩ => ?_)
  subst ex
  obtain rfl : u = Value.ref d := rx
  obtain ⟨es, ep, ho, hxd, hdt, hes⟩ := Inv_frzD I1 hd
  have raw : DT.Raw s1.heap d es ep := ⟨o, ho, hxd, hdt⟩
  refine ⟨raw.typeIs, fun b z => (by cases z; exact ⟨o, ho, hxd.2.1⟩), ?_⟩
  have I2 : L2.Inv X pins σ H1 { s1 with heap := s1.heap.push { cls := .type "dict_items", data := .fields #[.ref d] } } := I1.kept (t' := s1.toks) fun b ob q => Heap.get?_push_of_some _ q
  have fin : wpAny (model X.prog X.w) X.A (pyIter (.ref s1.heap.objs.size)) (PIE X pins σ (.Tuple elts kk tpos) R) X.xe { s1 with heap := s1.heap.push { cls := .type "dict_items", data := .fields #[.ref d] } } := by
    refine DT.iterI (d := d) ⟨_, Heap.get?_push_size _ rfl, rfl, rfl⟩ (raw.push _) (pi_one (tk := s1.toks) I2 _ (turn_itemsH (xs := xs) _ hdt) ⟨.none, .none, ?_⟩ q)
    exact Heap.get?_push_size _ rfl
  show wpAny _ _ (callWith cpos (.builtin "dict.items") [.ref d] [] []) _ X.xe s1
  exact Calls.callWith_builtin rfl (PySem.evalArgs_none (wpAny_mono (DT.callItems hs raw fin) (fun _ _ z => z) fun _ _ z => z))
def itemsD : List D → List D → List D
  | k :: ks, v :: vs => .tup [k, v] :: itemsD ks vs
  | _, _ => []
theorem itemsD_zip : ∀ ks vs : List D, itemsD ks vs = zipD ks vs
  | [], _ => rfl
  | _ :: _, [] => rfl
  | k :: ks, v :: vs => by rw [itemsD, zipD, itemsD_zip ks vs]
theorem ents_get {G : Gd} {H : Hp} {as : List Addr} : ∀ {ks vs : List D} {xs : Ents} {i : Nat} {z : D}, RepEnts G H as ks vs xs → (itemsD ks vs)[i]? = some z →
    ∃ k d n b u v, z = .tup [k, d] ∧ xs[i]? = some (n, b, u) ∧ Rep G H as (.ref b) k ∧ RelV v u ∧ Rep G H as v d
  | _, _, _, i, z, .nil, h => by simp [itemsD] at h
  | _, _, _, 0, z, .cons h1 h2 h3 h4 h5 r, h => by
    simp [itemsD] at h
    subst h
    exact ⟨_, _, _, _, _, _, rfl, rfl, h3, h4, h5⟩
  | _, _, _, i + 1, z, .cons h1 h2 h3 h4 h5 r, h => by
    rw [itemsD, List.getElem?_cons_succ] at h
    obtain ⟨k, d, n, b, u, v, e1, e2, e3⟩ := ents_get r h
    exact ⟨k, d, n, b, u, v, e1, by simpa using e2, e3⟩
theorem itemsD_length : ∀ {G : Gd} {H : Hp} {as : List Addr} {ks vs : List D} {xs : Ents}, RepEnts G H as ks vs xs → (itemsD ks vs).length = xs.length
  | _, _, _, _, _, _, .nil => rfl
  | _, _, _, _, _, _, .cons _ _ _ _ _ r => by rw [itemsD, List.length_cons, List.length_cons, itemsD_length r]
theorem yld_items {G : Gd} {as : List Addr} {H : Hp} {d : Addr} {o : Obj} {xs : Ents} {ks vs : List D} (h : H d = some (.frz o (dHO G d xs))) (hz : xs.length ≤ sizeLine) (r : RepEnts G H as ks vs xs) : Yld G (ItI G d o xs) as H (itemsD ks vs) where
  size := by rw [itemsD_length r]; exact hz
  item := fun H2 t f i z hz => by
    obtain ⟨k, d', n, b, u, v, rfl, hx, rk, ru, rv⟩ := ents_get r hz
    refine ⟨⟨f _ _ _ h, n, b, u, v, hx, ru⟩, fun x H3 ⟨T, n', b', u', v', hx', ru', e1, hT, e2⟩ => ?_⟩
    subst e1; subst e2
    rw [hx] at hx'
    cases hx'
    have ev := ru'.inj ru
    subst ev
    exact pair_new hT (rk.mono t f (fun _ _ z => z)) (rv.mono t f (fun _ _ z => z))
  stop := fun H2 t f i hi => ⟨f _ _ _ h, by rw [itemsD_length r] at hi; exact hi⟩
/-- for k, v in d.items(): d frozen -/
def dItems (e : DE) : DI := fun ρ Q => e ρ fun x ρ' => ∃ ks vs, x = .dct ks vs ∧ Q (itemsD ks vs) ρ'
theorem di_items {e : Expr} {d : DE} {apos cpos : Pos} {elts : List Expr} {kk : Nat} {tpos : Pos} (he : DEx X e d) (hbase : attributeBase e "items" X.env (eval e X.env) = eval e X.env := by rfl) (hline : (apos.endLine == cpos.line) = true := by rfl) :
    DIx X (.Tuple elts kk tpos) (.Call (.Attribute e "items" apos) [] [] cpos) (dItems d) := pi_con' (pi_itemsH he hbase hline) fun σ H R ⟨as, ρ, P, Rr, w, k⟩ => ⟨as, ρ, _, Rr, w, fun x ρ1 as1 v1 H1 w1 R1 r1 f1 => by
  obtain ⟨ks, vs, rfl, p⟩ := w1
  cases r1 with
  | dct h m z r => exact ⟨_, _, _, rfl, m, h, k _ ρ1 as1 H1 _ p R1 f1 (yld_items h z r)⟩⟩

/-! ### isinstance -/
def isiD (T : String) (x : D) : Option Bool := match x with
  | .non => kitB "NoneType" T
  | .bl _ => kitB "bool" T
  | .int _ => kitB "int" T
  | .str _ => kitB "str" T
  | .tup _ => kitB "tuple" T
  | .lst _ => kitB "list" T
  | _ => none
def dIsi (T : String) (a : DE) : DE := fun ρ Q => a ρ fun x ρ' => ∃ b, isiD T x = some b ∧ Q (.bl b) ρ'
theorem tyx_of {G : Gd} {H : Hp} {as : List Addr} {v : V} {d : D} {T : String} {b : Bool} (r : Rep G H as v d) (h : isiD T d = some b) : ∃ t, TyX G.K H v t ∧ PySem.W.kitOne G.K t (.type T) = some b := by
  cases r with
  | non => exact ⟨_, .base .non, kit_ty h⟩
  | bl x => exact ⟨_, .base (.bl x), kit_ty h⟩
  | int x => exact ⟨_, .base (.int x), kit_ty h⟩
  | str x => exact ⟨_, .base (.str x), kit_ty h⟩
  | tup hq _ =>
    rcases hq with (hq | ⟨o, hq⟩) | ⟨o, its, n, hk, hc, _⟩
    · exact ⟨_, .base (.tup hq), kit_ty h⟩
    · exact ⟨_, .fTuple hq, kit_ty h⟩
    · exact ⟨_, .kTuple hk hc, kit_ty h⟩
  | lst hq _ => obtain ⟨o, hq⟩ := hq; exact ⟨_, .base (.frz hq), kit_ty h⟩
  | _ => cases h
theorem de_isi {x y T : String} {p q pos : Pos} {e : Expr} {d : DE} (hg : Gl X x) (hm : X.mg x = none) (hv : bootBuiltins x = some (.builtin "isinstance")) (hgT : Gl X y) (hmT : X.mg y = none) (hvT : bootBuiltins y = some (.type T)) (he : DEx X e d)
    (hn : (x : Str) ≠ "__name__" := by decide) (hdb : ((x : Str) == ("__debug__" : Str)) = false := by decide) (hnT : (y : Str) ≠ "__name__" := by decide) (hdT : ((y : Str) == ("__debug__" : Str)) = false := by decide)
    (hse : starEach [e, .Name y q] X.env = (false, eval e X.env) :: starEach [.Name y q] X.env := by rfl) (hse2 : starEach [Expr.Name y q] X.env = (false, eval (.Name y q) X.env) :: starEach [] X.env := by rfl) (hpl : (backTo pos (starEach [.Name y q] X.env)).any (·.1) = false := by rfl) :
    DEx X (.Call (.Name x p) [e, .Name y q] [] pos) (dIsi T d) :=
  pe_con' (pe_callB call_isi hg hm hv (pa_cons he (pa_cons (pe_bltn (v := .ty T) hgT hmT hvT rfl hnT hdT) pa_nil hse2) hse) hn hdb hse hpl) fun σ H Q ⟨as, ρ, P, R, w, k⟩ => ⟨as, ρ, _, R, w, fun x ρ1 as1 v1 H1 w1 R1 r1 f1 => by
    obtain ⟨b, hb, p⟩ := w1
    obtain ⟨t, ty, ek⟩ := tyx_of r1 hb
    exact ⟨v1, .ty T, t, .type T, b, rfl, .ty T, ty, ek, k _ ρ1 as1 _ H1 p R1 (.bl _) f1⟩⟩

/-! ### t[::-1] of a tuple -/
section
variable {prog : Program} {w : World} {A : Around} {E : Value → Shared → Prop} {s : Shared}
theorem rev_adjust (n : Nat) : Builtin.Slice.sliceAdjust none none (-1) (n : Int) = ((n : Int) - 1, -1) := rfl
theorem rev_places (n : Nat) : Builtin.Slice.slicePlaces ((n : Int) - 1) (-1) (-1) = n := by
  unfold Builtin.Slice.slicePlaces
  have h1 : ¬ ((-1 : Int) > 0) := by omega
  simp only [h1, if_false]
  have e : (-(-1 : Int)) = 1 := by decide
  rw [e, Int.ediv_one]
  split <;> omega
theorem sliceApplied_rev {sl : Addr} {vk : Value} {n : Nat} {Q : Int × Int × Nat → Shared → Prop} (hs : s.heap.IsSliceOf sl .none .none vk) (pk : IsPart vk (some (-1)))
    (h : Q ((n : Int) - 1, -1, n) s) : wpAny (model prog w) A (Builtin.Slice.sliceApplied (.ref sl) (pure (n : Int))) Q E s := by
  obtain ⟨os, hos, hcs, hds⟩ := id hs
  unfold Builtin.Slice.sliceApplied Builtin.Slice.sliceFields
  refine wpAny_bind (wpAny_bind (wpAny_field hos hds (x := .none) rfl (wpAny_bind (wpAny_field hos hds (x := .none) rfl (wpAny_bind (wpAny_field hos hds (x := vk) rfl (wpAny_pure ?_)))))))
  refine wpAny_bind (HT.slicePart_ pk ?_)
  show wpAny _ _ (if ((-1 : Int) == 0) = true then _ else _) _ _ s
  rw [if_neg (by decide)]
  refine wpAny_bind (slicePart_none (wpAny_bind (slicePart_none (wpAny_bind (wpAny_pure ?_)))))
  show wpAny _ _ (match Builtin.Slice.sliceAdjust none none (-1) (n : Int) with | (lo, hi) => pure (lo, (-1 : Int), Builtin.Slice.slicePlaces lo hi (-1))) _ _ s
  rw [rev_adjust]
  show wpAny _ _ (pure ((n : Int) - 1, (-1 : Int), Builtin.Slice.slicePlaces ((n : Int) - 1) (-1) (-1))) _ _ s
  rw [rev_places]
  exact wpAny_pure h
theorem fm_congr {α β : Type} {f g : α → Option β} : ∀ {l : List α}, (∀ a ∈ l, f a = g a) → l.filterMap f = l.filterMap g
  | [], _ => rfl
  | a :: l, h => by
    rw [List.filterMap_cons, List.filterMap_cons, h a List.mem_cons_self, fm_congr fun b hb => h b (List.mem_cons_of_mem _ hb)]
theorem evpNone {M : Model} {env : Env} {Q : Value → Shared → Prop} (h : Q .none s) : wpAny M A (evalPart none env) Q E s := wpAny_pure h
theorem pick_rev (xs : List Value) : ((List.range xs.length).filterMap fun (m : Nat) => xs[((xs.length : Int) - 1 + (m : Int) * (-1)).toNat]?) = xs.reverse := by
  apply List.ext_getElem?
  intro i
  have e : ((List.range xs.length).filterMap fun (m : Nat) => xs[((xs.length : Int) - 1 + (m : Int) * (-1)).toNat]?) = (List.range xs.length).map fun (m : Nat) => xs.getD (xs.length - 1 - m) .none := by
    rw [← List.filterMap_eq_map]
    apply fm_congr
    intro m hm
    have hm := List.mem_range.mp hm
    have e1 : ((xs.length : Int) - 1 + (m : Int) * (-1)).toNat = xs.length - 1 - m := by omega
    rw [e1]
    show _ = some (xs.getD (xs.length - 1 - m) .none)
    rw [List.getD_eq_getElem?_getD, List.getElem?_eq_getElem (by omega)]
    rfl
  rw [e, List.getElem?_map]
  by_cases hi : i < xs.length
  · rw [List.getElem?_range hi, List.getElem?_reverse hi]
    show some (xs.getD (xs.length - 1 - i) .none) = _
    rw [List.getD_eq_getElem?_getD, List.getElem?_eq_getElem (by omega)]
    rfl
  · rw [List.getElem?_eq_none (by simpa using hi), List.getElem?_eq_none (by simpa using hi)]
    rfl
theorem getItem_tuple_rev {t sl : Addr} {items : List Value} {vk : Value} {Q : Value → Shared → Prop} (ht : IsTup s.heap t items.toArray) (hs : s.heap.IsSliceOf sl .none .none vk) (pk : IsPart vk (some (-1)))
    (h : Q (.ref s.heap.objs.size) { s with heap := s.heap.push { cls := .type "tuple", data := .seq items.reverse.toArray } })
    (hsz : items.length ≤ sizeLine) : wpAny (model prog w) A (getItem (.ref t) (.ref sl)) Q E s := by
  obtain ⟨os, hos, hcs, hds⟩ := id hs
  have hTs : s.TypeIs (.ref sl) "slice" := ⟨os, hos, hcs⟩
  have htake : sizeOk (.seq items.reverse.toArray) := by
    show items.reverse.toArray.size ≤ sizeLine
    rw [List.size_toArray, List.length_reverse]; exact hsz
  unfold getItem
  try with_reducible refine wpAny_holding ?_
  first | refine wpAny_bind (wpAny_pure ?_) | skip
  refine wpAny_bind (wpAny_sequenceKey ht.typeIs (by decide) ?_)
  refine wpAny_bind (wpAny_callSpecial?_slot (name := Str.ofString "__getitem__") ht.typeIs PyProof.Rows.slot_tuple_getitem
    (wpAny_call_entry PyProof.Rows.slot_tuple_getitem ht.typeIs PyProof.Rows.entry_tuple_getitem ?_ (PyProof.Rows.args_tuple_getitem _ _)))
  show wpAny _ _ (Builtin.Tuple.tupleItemsOf (.ref t) >>= _) _ _ s
  refine wpAny_bind (PyProof.Rows.tupleItemsOf_ ht ?_)
  refine wpAny_bind (wpAny_typeOf hTs ?_)
  rw [if_pos (by decide)]
  have hn : (items.toArray.size : Int) = (items.length : Int) := by rw [List.size_toArray]
  refine wpAny_bind (sliceApplied_rev (n := items.toArray.size) hs pk ?_)
  have hno : ¬ ((((items.toArray.size : Int) - 1) == 0 && ((-1 : Int) == 1) && items.toArray.size == items.toArray.size) = true) := by
    intro q
    rw [Bool.and_eq_true, Bool.and_eq_true] at q
    exact absurd q.1.2 (by decide)
  show wpAny _ _ (if (((items.toArray.size : Int) - 1) == 0 && ((-1 : Int) == 1) && items.toArray.size == items.toArray.size) = true then _ else _) _ _ s
  rw [if_neg hno]
  have e : ((List.range items.toArray.size).filterMap fun (m : Nat) => items.toArray[((items.toArray.size : Int) - 1 + (m : Int) * (-1)).toNat]?).toArray = items.reverse.toArray := by
    rw [List.size_toArray]
    rw [← pick_rev items]
    simp only [List.getElem?_toArray]
  rw [e]
  first
    | exact wpAny_bind (m := Builtin.Tuple.tupleExact _) (wpAny_newObj_type (wpAny_pure ⟨_, rfl, wpAny_pure h⟩) htake)
    | exact wpAny_bind (m := Builtin.Tuple.tupleExact _) (wpAny_newObj_type (wpAny_bind (wpAny_pure (wpAny_pure ⟨_, rfl, wpAny_pure h⟩))) htake)
    | exact wpAny_bind (wpAny_bind (m := Builtin.Tuple.tupleExact _) (wpAny_newObj_type (wpAny_pure (wpAny_pure ⟨_, rfl, wpAny_pure h⟩)) htake))
    | exact wpAny_bind (wpAny_bind (m := Builtin.Tuple.tupleExact _) (wpAny_newObj_type (wpAny_pure ⟨_, rfl, wpAny_pure h⟩) htake))
end
/-- x[::-1]: a list or a tuple -/
def dRev (a : DE) : DE := fun ρ Q => a ρ fun x ρ1 => match vw ρ1.st x with
  | .lst ds => Q (.lst ds.reverse) ρ1
  | .tup ds => Q (.tup ds.reverse) ρ1
  | _ => False
def tRevA (K : PySem.W.Frag) (te : TE) : TE := fun σ H Q => te σ H fun x H1 => (∃ a xs, x = .ref a ∧ SqL K H1 a xs ∧ ∀ p, H1 p = none → Q (.ref p) (upd H1 p (.lst xs.reverse))) ∨ (∃ a xs, x = .ref a ∧ SqT K H1 a xs ∧ ∀ p, H1 p = none → Q (.ref p) (upd H1 p (.tup xs.reverse)))
theorem pe_revA {e : Expr} {te : TE} {k : Nat} {p1 p2 p3 pos : Pos} (he : PE X e te) : PE X (.Subscript e (.Slice none none (some (.UnaryOp .USub (.Constant (.int 1) k p1) p2)) p3) pos) (tRevA X.K te) := by
  refine ⟨fun pins s σ H Q I h => ?_⟩
  refine Subscript_ (thn (he.run pins s σ H _ I h) fun v s1 ⟨x, H1, I1, r1, q1⟩ => ?_)
  have hst : PO X (some (.UnaryOp .USub (.Constant (.int 1) k p1) p2)) (tPart (tUn (rU fun i => .int (-i)) (tC (.int 1)))) := po_some (pe_un un_neg pe_int)
  refine wpAny_Slice (evpNone (evpNone (thn (hst.run pins s1 σ H1 (fun o H4 => o = some (-1) ∧ H4 = H1) I1 ⟨1, rfl, -1, rfl, rfl, rfl⟩) fun vs s4 ⟨o, H4, I4, ps, eo, e4⟩ => ?_)))
  subst eo e4
  have I5 : L2.Inv X pins σ H4 { s4 with heap := s4.heap.push { cls := .type "slice", data := .fields #[.none, .none, vs] } } := I4.kept (t' := s4.toks) fun b ob q => Heap.get?_push_of_some _ q
  rcases q1 with ⟨a, xs, ex, hx, q⟩ | ⟨a, xs, ex, hx, q⟩
  · subst ex
    cases r1
    obtain ⟨its, r, ht, hz⟩ := I5.list hx
    have hlen := r.length
    show wpAny (model X.prog X.w) X.A (subscriptTail e (.Slice none none (some (.UnaryOp .USub (.Constant (.int 1) k p1) p2)) p3) (.ref a) (.ref s4.heap.objs.size)) (EP X pins σ Q) X.xe { s4 with heap := s4.heap.push { cls := .type "slice", data := .fields #[.none, .none, vs] } }
    refine tail_any (ops := [.ref a, .ref s4.heap.objs.size]) ht.isList.typeIs (PySem.slot_list_getitem.lookup) ?_ (by with_unfolding_all rfl)
    refine wpAny_getItem_list_slice ht.isList (Heap.IsSliceOf.new _ .none .none vs) .none .none ps (by decide) ?_ (by rw [List.size_toArray]; omega)
    rw [PySem.W.krv_pick]
    refine ⟨.ref _, _, I5.laid (t' := s4.toks) (o := .lst xs.reverse) (fun b ob q => Heap.get?_push_of_some _ q) (Nat.le_refl _) ?_, rfl, q _ (I5.hok.fresh (Nat.le_refl _))⟩
    exact ⟨by rw [List.length_reverse]; exact hz, _, 0, r.reverse, Heap.get?_push_size _ rfl⟩
  · subst ex
    cases r1
    obtain ⟨its, r, ht, hz⟩ := I5.tuple hx
    have hlen := r.length
    show wpAny (model X.prog X.w) X.A (subscriptTail e (.Slice none none (some (.UnaryOp .USub (.Constant (.int 1) k p1) p2)) p3) (.ref a) (.ref s4.heap.objs.size)) (EP X pins σ Q) X.xe { s4 with heap := s4.heap.push { cls := .type "slice", data := .fields #[.none, .none, vs] } }
    refine tail_any (ops := [.ref a, .ref s4.heap.objs.size]) ht.typeIs (PyProof.Rows.slot_tuple_getitem.lookup) ?_ (by with_unfolding_all rfl)
    refine getItem_tuple_rev ht (Heap.IsSliceOf.new _ .none .none vs) ps ?_ (by rw [← hlen]; exact hz)
    refine ⟨.ref _, _, I5.laid (t' := s4.toks) (o := .tup xs.reverse) (fun b ob q => Heap.get?_push_of_some _ q) (Nat.le_refl _) ?_, rfl, q _ (I5.hok.fresh (Nat.le_refl _))⟩
    exact ⟨by rw [List.length_reverse]; exact hz, _, r.reverse, ⟨_, Heap.get?_push_size _ rfl, rfl, _, rfl⟩⟩
theorem pe_revF {e : Expr} {t : TE} (h : PE X e t) : PE X e (fun σ H Q => t σ H fun v H' => (∃ a xs, v = .ref a ∧ H' a = some (.lst xs) ∧ ∀ o, Q v (upd H' a (.frz o (.lst xs)))) ∨ Q v H') := ⟨fun pins s σ H Q I q => thn (h.run pins s σ H _ I q) fun u s' ⟨v, H', I', r, z⟩ => by
  rcases z with z | z
  · exact EP.frz ⟨v, H', I', r, z⟩
  · exact ⟨v, H', I', r, z⟩⟩
theorem de_rev {e : Expr} {d : DE} {k : Nat} {p1 p2 p3 pos : Pos} (he : DEx X e d) : DEx X (.Subscript e (.Slice none none (some (.UnaryOp .USub (.Constant (.int 1) k p1) p2)) p3) pos) (dRev d) :=
  pe_con' (pe_revF (pe_revA he)) fun σ H Q ⟨as, ρ, P, R, w, k⟩ =>
    ⟨as, ρ, _, R, w, fun x ρ1 as1 v1 H1 w1 R1 r1 f1 => by
      split at w1
      · rename_i ds e
        obtain ⟨a, xs, rfl, h1, rr⟩ := rep_list R1.st r1 e
        refine Or.inl ⟨a, xs, rfl, h1, fun q hq => Or.inl ?_⟩
        exact frzQ_new (P := fun z => z = .lst ds.reverse) q hq rr.reverse rfl fun z v H' ez s r => by
          subst ez
          exact k _ ρ1 as1 v H' w1 (R1.same s) r (f1.trans (.same s))
      · rename_i ds e
        have e := vw_tup e
        subst e
        obtain ⟨a, xs, rfl, h1, rr⟩ := rep_tup r1
        refine Or.inr ⟨a, xs, rfl, h1, fun q hq => Or.inr ?_⟩
        exact new_tup (P := fun z => z = .tup ds.reverse) q hq rr.reverse rfl fun z v H' ez s r => by
          subst ez
          exact k _ ρ1 as1 v H' w1 (R1.same s) r (f1.trans (.same s))
      · exact w1.elim⟩
end
end BB
set_option maxRecDepth 100000
/-! The data layer, 11: dict comprehensions, keys ints or texts. -/
namespace BB
open PySem PySem.Spec PyProof.Rows L2

theorem putK_nd {kvs : List (Key × V)} (k : Key) (v : V) (hn : (kvs.map (·.1)).Nodup) : ((putK kvs k v).map (·.1)).Nodup := by
  cases h : valV kvs k with
  | none => exact nd_putK v hn h
  | some w =>
    unfold putK
    rw [if_pos (by rw [valV_any, h]; rfl), List.map_map]
    have e : kvs.map ((fun x : Key × V => x.1) ∘ fun kv => if kv.1 = k then (kv.1, v) else kv) = kvs.map (·.1) := by
      apply List.map_congr_left
      intro z _
      show (if z.1 = k then (z.1, v) else z).1 = z.1
      split <;> rfl
    rw [e]
    exact hn
/-- what stays apart from an address of ours -/
theorem RepS.apartK {G : Gd} {H : Hp} {as : List Addr} {σ : L2.St} {ρ : DS} {p : Addr} {o u : HO} (R : RepS G H as σ ρ) (hp : p ∉ as) (e : H p = some o) (mu : Mut (some o)) : RepS G (upd H p u) as σ ρ := R.apart hp e mu
section
variable {X : Cx}
def dDc (di : DI) (g : DG) (t : DT) (ke ve : DE) (vs : List Nat) : DE := fun ρ Q => di ρ fun xs ρ1 => ∃ W : Nat → List D → List D → List Cell → Prop, W 0 [] [] ρ1.st ∧
  (∀ i x ks ws st, xs[i]? = some x → W i ks ws st → g x ⟨wipeD ρ1.sl vs, st⟩ fun ρ2 => t ρ2 fun c ρ3 => if c = true then ke ρ3 fun y ρ4 => ve ρ4 fun z ρ5 => isKeyS y ∧ W (i + 1) (putD ks ws y z).1 (putD ks ws y z).2 ρ5.st else W (i + 1) ks ws ρ3.st) ∧
  ∀ ks ws st, W xs.length ks ws st → Q (.dcs ks ws) ⟨ρ1.sl, st⟩
def frzSQ (Q : VK) : VK := fun v H' => ∃ a xs, v = .ref a ∧ H' a = some (.dK xs) ∧ ∀ o, Q v (upd H' a (.frz o (.dK xs)))
theorem EP.frzS {pins : List (Addr × Obj)} {σ : L2.St} {Q : VK} {u : Value} {s' : Shared} (h : EP X pins σ (frzSQ Q) u s') : EP X pins σ Q u s' := by
  obtain ⟨v, H', I, r, a, xs, rfl, e, k⟩ := h
  obtain ⟨od, I'⟩ := I.lock e trivial
  exact ⟨_, _, I', r, k od⟩
theorem lift_dc {G : Gd} {di : DI} {g : DG} {t : DT} {ke ve : DE} {vs : List Nat} {σ : L2.St} {H : Hp} {Q Q' : VK} (hQ : ∀ v H', frzSQ Q v H' → Q' v H') (h : liftE G (dDc di g t ke ve vs) σ H Q) :
    tDc (liftI G di) (liftG G vs g) (liftT G t) (liftE G ke) (liftE G ve) vs σ H Q' := by
  obtain ⟨as, ρ, P, R, w, k⟩ := h
  refine ⟨as, ρ, _, R, w, fun xs ρ1 as1 H1 J w1 R1 f1 Y D hD => ?_⟩
  obtain ⟨W, w0, turn, fin⟩ := w1
  have s0 : Same H1 (upd H1 D (.dK [])) := Same.upd hD
  refine ⟨fun i m H' => m = xs.length - i ∧ i ≤ xs.length ∧ ∃ as' ks ws kvs st, H' D = some (.dK kvs) ∧ (kvs.map (·.1)).Nodup ∧ RepKV G H' as' ks ws kvs ∧ ks.length ≤ i ∧ D ∉ as' ∧ RepS G H' as' σ ⟨ρ1.sl, st⟩ ∧ Frm as1 H1 as' H' ∧ W i ks ws st, ⟨xs.length, by simp, Nat.zero_le _, as1, [], [], [], ρ1.st, upd_same, List.nodup_nil, .nil, Nat.le_refl _, R1.st.notin hD, R1.same s0, .same s0, w0⟩, ?_⟩
  rintro i m H2 ⟨rfl, hi, as2, ks, ws, kvs, st, hd2, nd, ra2, hl2, nd2, R2, f2, w2⟩
  have hDl : D ∉ as1 := R1.st.notin hD
  by_cases hlt : i < xs.length
  · obtain ⟨go, yl⟩ := Y.item H2 f2.tups f2.frzs i xs[i] (by simp [hlt])
    refine .inr ⟨go, fun H' => ∃ as' ks ws kvs st, H' D = some (.dK kvs) ∧ (kvs.map (·.1)).Nodup ∧ RepKV G H' as' ks ws kvs ∧ ks.length ≤ i + 1 ∧ D ∉ as' ∧ RepS G H' as' σ ⟨ρ1.sl, st⟩ ∧ Frm as1 H1 as' H' ∧ W (i + 1) ks ws st, fun H' q => ⟨xs.length - (i + 1), by omega, rfl, hlt, q⟩, fun x H3 y => ?_⟩
    obtain ⟨r3, s3⟩ := yl x H3 y
    have f3 : Frm as1 H1 as2 H3 := f2.trans (.same s3)
    have stayD : ∀ {as' : List Addr} {H' : Hp}, Frm as2 H3 as' H' → H' D = some (.dK kvs) ∧ D ∉ as' := fun {as' H'} f => ⟨f.keep _ _ (s3 _ _ hd2) nd2, notin_grow f nd2 (s3 _ _ hd2)⟩
    have back : ∀ {as' : List Addr} {H' : Hp} {ρ' : DS} {σ' : L2.St}, Frm as2 H3 as' H' → RepS G H' as' σ' ρ' → RepS G H' as' σ ⟨ρ1.sl, ρ'.st⟩ := fun {as' H' ρ' σ'} f R' => ((R2.same s3).store f R'.st)
    refine ⟨as2, ⟨wipeD ρ1.sl vs, st⟩, xs[i], _, (R2.same s3).wipe vs, r3.mono (fun _ _ z => z) (fun _ _ _ z => z) f2.ix, turn i xs[i] ks ws st (by simp [hlt]) w2, fun ρ4 as4 σ4 H4 w4 R4 f4 e4 => ?_⟩
    refine ⟨by rw [e4]; exact wipe_wipe σ vs, as4, ρ4, _, R4, w4, fun c ρ5 as5 H5 w5 R5 f5 => ?_⟩
    have f25 := f4.trans f5
    cases c with
    | false =>
      rw [if_neg Bool.false_ne_true] at w5
      obtain ⟨h1, h2⟩ := stayD f25
      exact iteF ⟨as5, ks, ws, kvs, _, h1, nd, (ra2.frm (.same s3)).frm f25, by omega, h2, back f25 R5, f3.trans f25, w5⟩
    | true =>
      rw [if_pos rfl] at w5
      refine iteT ⟨as5, ρ5, _, R5, w5, fun y ρ6 as6 v6 H6 w6 R6 r6 f6 => ⟨as6, ρ6, _, R6, w6, fun z ρ7 as7 v7 H7 w7 R7 r7 f7 => ?_⟩⟩
      obtain ⟨⟨n, hk⟩, w7⟩ := w7
      have f27 := (f25.trans f6).trans f7
      obtain ⟨h1, h2⟩ := stayD f27
      have hsz := Y.size
      have hvl := ra2.length.1
      have ev := kV_keyD (r6.frm f7) hk
      have g7 : Frm [D] H7 [D] (upd H7 D (.dK (putK kvs n v7))) := .cell (List.mem_singleton.mpr rfl) h1 trivial
      have up7 : ∀ v d, Rep G H7 as7 v d → Rep G (upd H7 D (.dK (putK kvs n v7))) as7 v d := fun v d r => r.mono g7.tups g7.frzs (fun _ _ z => z)
      refine ⟨kvs, n, ev, h1, by omega, as7, (putD ks ws y z).1, (putD ks ws y z).2, putK kvs n v7, ρ7.st, upd_same, putK_nd n v7 nd, ?_, ?_, h2, (back f27 R7).apart h2 h1 trivial, (f3.trans f27).apart hD h1 trivial, w7⟩
      · exact kv_put (((ra2.frm (.same s3)).frm f27).up up7) nd hk (up7 _ _ r7)
      · have := putD_length ks ws y z
        omega
  · have e : i = xs.length := by omega
    subst e
    refine .inl ⟨Y.stop H2 f2.tups f2.frzs _ (Nat.le_refl _), hQ _ _ ⟨D, kvs, rfl, hd2, fun o => ?_⟩⟩
    have g2 : Frm [D] H2 [D] (upd H2 D (.frz o (.dK kvs))) := .cell (List.mem_singleton.mpr rfl) hd2 trivial
    exact k _ _ as2 _ _ (fin ks ws st w2) (R2.apart nd2 hd2 trivial) (.dcs upd_same (ra2.mono g2.tups g2.frzs (fun _ _ z => z))) (f1.trans (f2.apart hD hd2 trivial))
theorem pe_frzS {e : Expr} {t : TE} (h : PE X e t) : PE X e (fun σ H Q => t σ H (frzSQ Q)) := ⟨fun pins s σ H Q I q => thn (h.run pins s σ H _ I q) fun _ _ z => EP.frzS z⟩
theorem de_dc {kx vx tg iter : Expr} {ifs : List Expr} {scope : Scope} {own : List (Str × Nat)} {pos : Pos} {di : DI} {g : DG} {t : DT} {ke ve : DE} (hc : X.calm = true) (hN : X.N.Nodup) (hi : DIx X tg iter di) (ok : BlkOk X.N X.env.scope scope own)
    (hg : ∀ (s : Shared) (H : Hp) (C : Addr) (cl : List (Str × Addr)) (fp : List Addr), DGx (X.blk s H scope (compEnvC scope cl C X.env) fp) (own.map (·.2)) tg g)
    (ht : ∀ (s : Shared) (H : Hp) (C : Addr) (cl : List (Str × Addr)) (fp : List Addr), DTsx (X.blk s H scope (compEnvC scope cl C X.env) fp) ifs t)
    (hk : ∀ (s : Shared) (H : Hp) (C : Addr) (cl : List (Str × Addr)) (fp : List Addr), DEx (X.blk s H scope (compEnvC scope cl C X.env) fp) kx ke)
    (he : ∀ (s : Shared) (H : Hp) (C : Addr) (cl : List (Str × Addr)) (fp : List Addr), DEx (X.blk s H scope (compEnvC scope cl C X.env) fp) vx ve) (hs : ∀ x, foldedSetIterable iter X.env x = pure x := by intro _; rfl) :
    DEx X (.DictComp kx vx [⟨tg, iter, ifs, 0⟩] scope pos) (dDc di g t ke ve (own.map (·.2))) :=
  pe_con' (pe_frzS (pe_dc (wi := liftI (gd X) di) (g := liftG (gd X) (own.map fun p : Str × Nat => p.2) g) (tt := liftT (gd X) t) (tk := liftE (gd X) ke) (tv := liftE (gd X) ve) hc hN hi ok hg ht hk he hs)) fun σ H Q h => lift_dc (fun _ _ z => z) h
/-- name = {..} on one line, the name a local -/
theorem ps_setDc {i : Nat} {y : Str} {py : Pos} {kx vx tg iter : Expr} {ifs : List Expr} {scope : Scope} {own : List (Str × Nat)} {pos spos : Pos} {wi : TI} {g : TG} {tt : TT} {tk tv : TE} (hc : X.calm = true) (hN : X.N.Nodup) (hy : X.N[i]? = some y) (hyl : X.env.scope.names.lookup y = some .local)
    (hsw : swapsWith (.DictComp kx vx [⟨tg, iter, ifs, 0⟩] scope pos) (some (.Name y py)) spos.line X.env = pure true) (hi : PI X tg iter wi) (ok : BlkOk X.N X.env.scope scope own)
    (hg : ∀ (s : Shared) (H : Hp) (C : Addr) (cl : List (Str × Addr)) (fp : List Addr), PG (X.blk s H scope (compEnvC scope cl C X.env) fp) tg g) (ht : ∀ (s : Shared) (H : Hp) (C : Addr) (cl : List (Str × Addr)) (fp : List Addr), PTs (X.blk s H scope (compEnvC scope cl C X.env) fp) ifs tt)
    (hk : ∀ (s : Shared) (H : Hp) (C : Addr) (cl : List (Str × Addr)) (fp : List Addr), PE (X.blk s H scope (compEnvC scope cl C X.env) fp) kx tk)
    (he : ∀ (s : Shared) (H : Hp) (C : Addr) (cl : List (Str × Addr)) (fp : List Addr), PE (X.blk s H scope (compEnvC scope cl C X.env) fp) vx tv) (hs : ∀ x, foldedSetIterable iter X.env x = pure x := by intro _; rfl) :
    PS X (.Assign [.Name y py] (.DictComp kx vx [⟨tg, iter, ifs, 0⟩] scope pos) spos) (tAsg (tDc wi g tt tk tv (own.map (·.2))) (gName i)) := by
  refine ⟨fun pins s σ H D I h => ?_⟩
  rw [exec_Assign_Name_used _ _ _ _ hsw]
  refine wpAny_bind (wpAny_standAt (wpAny_bind ?_))
  show wpAny _ X.A (do let _ ← comprehension (.DictComp kx vx [⟨tg, iter, ifs, 0⟩] scope pos) scope X.env (firstIterPos [⟨tg, iter, ifs, 0⟩] pos) newDict false (eval iter X.env) (some (assign (.Name y py) X.env))) _ _ s
  have h : tDc wi g tt tk tv (own.map (·.2)) σ H (fun x H1 => gName i x σ H1 D.nx) := h
  refine wpAny_bind (thn (dc_core (Qf := fun _ s' => SP X pins D .next s') hc hN I hi ok hg ht hk he hs h fun L C s' m H' I' q hn f => ?_) fun _ s' hq => wpAny_pure (wpAny_pure hq))
  show wpAny _ _ (assign (.Name y py) X.env (.ref L)) _ _ _
  refine wpAny_assign_Name (store_ok2 (v := V.ref L) I' hN hy (.inl hyl) rfl (fun s2 I2 ⟨a, sb, ha⟩ => ?_) (.inr hyl))
  obtain ⟨f0, f1, f2, f3, f4, f5⟩ := f
  have haC : C ≠ a := by
    rcases ha with z | z
    · rw [z]; exact f1
    · exact fun e => f4 y a z e.symm
  refine ⟨m, hn.sameBut sb haC, fun h3 sb3 => ?_⟩
  exact ⟨_, H', I2.turned (t' := s2.toks) (fun b o hb e => (sb3.2 b hb).trans e) f0 f1 f3 f4 f5, q⟩
theorem ps_frzS {st : Stmt} {t : TS} (h : PS X st t) : PS X st (fun E σ H => t { E with nx := fun σ' H' => ∃ a xs, H' a = some (.dK xs) ∧ ∀ o, E.nx σ' (upd H' a (.frz o (.dK xs))) } σ H) := ⟨fun pins s σ H E I q =>
  thn (h.run pins s σ H _ I q) fun f s' z => by
    cases f with
    | next =>
      obtain ⟨σ', H', I', a, xs, e, k⟩ := z
      obtain ⟨od, I2⟩ := I'.lock e trivial
      exact ⟨σ', _, I2, k od⟩
    | brk => exact z
    | cont => exact z
    | ret u => exact z⟩
theorem dp_setDc {i : Nat} {y : Str} {py : Pos} {kx vx tg iter : Expr} {ifs : List Expr} {scope : Scope} {own : List (Str × Nat)} {pos spos : Pos} {di : DI} {g : DG} {t : DT} {ke ve : DE} (hc : X.calm = true) (hN : X.N.Nodup) (hy : X.N[i]? = some y) (hyl : X.env.scope.names.lookup y = some .local)
    (hsw : swapsWith (.DictComp kx vx [⟨tg, iter, ifs, 0⟩] scope pos) (some (.Name y py)) spos.line X.env = pure true) (hi : DIx X tg iter di) (ok : BlkOk X.N X.env.scope scope own)
    (hg : ∀ (s : Shared) (H : Hp) (C : Addr) (cl : List (Str × Addr)) (fp : List Addr), DGx (X.blk s H scope (compEnvC scope cl C X.env) fp) (own.map (·.2)) tg g)
    (ht : ∀ (s : Shared) (H : Hp) (C : Addr) (cl : List (Str × Addr)) (fp : List Addr), DTsx (X.blk s H scope (compEnvC scope cl C X.env) fp) ifs t)
    (hk : ∀ (s : Shared) (H : Hp) (C : Addr) (cl : List (Str × Addr)) (fp : List Addr), DEx (X.blk s H scope (compEnvC scope cl C X.env) fp) kx ke)
    (he : ∀ (s : Shared) (H : Hp) (C : Addr) (cl : List (Str × Addr)) (fp : List Addr), DEx (X.blk s H scope (compEnvC scope cl C X.env) fp) vx ve) (hs : ∀ x, foldedSetIterable iter X.env x = pure x := by intro _; rfl) :
    DPx X (.Assign [.Name y py] (.DictComp kx vx [⟨tg, iter, ifs, 0⟩] scope pos) spos) (dAsg (dDc di g t ke ve (own.map (·.2))) (gSet i)) :=
  ps_con' (ps_frzS (ps_setDc (wi := liftI (gd X) di) (g := liftG (gd X) (own.map fun p : Str × Nat => p.2) g) (tt := liftT (gd X) t) (tk := liftE (gd X) ke) (tv := liftE (gd X) ve) hc hN hy hyl hsw hi ok hg ht hk he hs)) fun E σ H ⟨as, ρ, P, R, w, k⟩ => by
    refine lift_dc (Q := fun v H' => E.nx (σ.set i (some v)) H') (fun v H' ⟨a, xs, ev, eh, z⟩ => ⟨a, xs, eh, z⟩) ⟨as, ρ, _, R, w, fun x ρ1 as1 v1 H1 w1 R1 r1 f1 => ?_⟩
    exact k.nx _ as1 _ H1 w1 (R1.setSlot i r1) f1
theorem swd_true {kx vx : Expr} {gs : List Comprehension} {scope : Scope} {pos py : Pos} {y : Str} {l : Nat} {env : Env} (hk : env.scope.kind = .function) (hy : env.scope.names.lookup y = some .local) (hl : (py.line == pos.line) = true)
    (ha : (scope.names.any fun (n, k) => n == y && (k == .local || k == .cell)) = false) : swapsWith (.DictComp kx vx gs scope pos) (some (.Name y py)) l env = pure true := by
  have ky : env.kindOf y = some .local := hy
  have hb : env.blockKind = .function := by unfold Env.blockKind; rw [hk]; rfl
  unfold swapsWith
  simp only [hb, ky, ha, Expr.pos, hl]
  rfl
end
end BB
set_option maxRecDepth 100000
/-! The data layer, 12: names for the printed texts. -/
namespace BB
open PySem PySem.Spec PyProof.Rows L2
abbrev wSub : WP2 := wArI (fun _ _ => True) fun i j => i - j
abbrev wMul : WP2 := wArI CMul fun i j => i * j
abbrev wMod : WP2 := wArI (fun _ j => 0 < j) fun i j => i % j
abbrev wDiv : WP2 := wArI CDiv fun i j => i / j
abbrev wPow : WP2 := wArI CPow fun i j => i ^ j.toNat
abbrev wLt : WP2 := wI2 fun i j => decide (i < j)
abbrev wLe : WP2 := wI2 fun i j => decide (i ≤ j)
abbrev wGt : WP2 := wI2 fun i j => decide (j < i)
abbrev wGe : WP2 := wI2 fun i j => decide (j ≤ i)
abbrev wSrt : WPn := fun ds st Q => ∃ x es, ds = [x] ∧ vw st x = .lst es ∧ SortOk es ∧ Q (.lst (sortD es))
theorem hu_1 {k : Nat} {A : Around} (r : Room k A) : A.units + 65 < cLine := by have := r.un; omega
theorem hu_2 {k : Nat} {A : Around} (r : Room k A) : A.units + 80 < cLine := by have := r.un; omega
abbrev slot_append := @PySem.F.slot_list_append
abbrev slot_insert := @PySem.F.slot_list_insert
abbrev slot_extend := @PySem.F.slot_list_extend
abbrev slot_index := @PySem.F.slot_list_index
abbrev slot_pop := @PySem.F.slot_list_pop
end BB
set_option maxRecDepth 100000
/-! Tools for promises over data: encodings, dicts by pairs. -/
namespace BB
open PySem PySem.Spec PyProof.Rows L2
/-! ### equality, shape -/
theorem deq_int (a b : Int) : deq (.int a) (.int b) = decide (a = b) := by
  show (a == b) = decide (a = b)
  by_cases h : a = b
  · rw [h]; simp
  · rw [decide_eq_false h]; exact beq_eq_false_iff_ne.mpr h
theorem deq_str (a b : Str) : deq (.str a) (.str b) = decide (a = b) := by
  show (a == b) = decide (a = b)
  by_cases h : a = b
  · rw [h]; simp
  · rw [decide_eq_false h]; exact beq_eq_false_iff_ne.mpr h
theorem deq_nn : deq .non .non = true := rfl
theorem deq_cons (a b : D) (as bs : List D) : deq (.tup (a :: as)) (.tup (b :: bs)) = (deq a b && deq (.tup as) (.tup bs)) := rfl
theorem deq_consL (a b : D) (as bs : List D) : deq (.lst (a :: as)) (.lst (b :: bs)) = (deq a b && deq (.lst as) (.lst bs)) := rfl
theorem deq_nil : deq (.tup []) (.tup []) = true := rfl
theorem deq_map {α : Type} [DecidableEq α] {e : α → D} (h : ∀ a b, deq (e a) (e b) = decide (a = b)) : ∀ xs ys : List α, deq (.tup (xs.map e)) (.tup (ys.map e)) = decide (xs = ys)
  | [], [] => rfl
  | [], _ :: _ => rfl
  | _ :: _, [] => rfl
  | x :: xs, y :: ys => by
    rw [List.map_cons, List.map_cons, deq_cons, h, deq_map h xs ys]
    by_cases h1 : x = y
    · by_cases h2 : xs = ys
      · simp [h1, h2]
      · simp [h1, h2]
    · simp [h1]
theorem deq_mapL {α : Type} [DecidableEq α] {e : α → D} (h : ∀ a b, deq (e a) (e b) = decide (a = b)) : ∀ xs ys : List α, deq (.lst (xs.map e)) (.lst (ys.map e)) = decide (xs = ys)
  | [], [] => rfl
  | [], _ :: _ => rfl
  | _ :: _, [] => rfl
  | x :: xs, y :: ys => by
    rw [List.map_cons, List.map_cons, deq_consL, h, deq_mapL h xs ys]
    by_cases h1 : x = y
    · by_cases h2 : xs = ys
      · simp [h1, h2]
      · simp [h1, h2]
    · simp [h1]
theorem sh_map {α : Type} {e : α → D} {n : Nat} {xs : List α} (h : ∀ a ∈ xs, sh n (e a)) : sh (n + 1) (.tup (xs.map e)) := (sh_tup _ _).mpr fun d hd => by
  obtain ⟨a, ha, rfl⟩ := List.mem_map.mp hd
  exact h a ha
theorem sh_mapL {α : Type} {e : α → D} {n : Nat} {xs : List α} (h : ∀ a ∈ xs, sh n (e a)) : sh (n + 1) (.lst (xs.map e)) := (sh_lst _ _).mpr fun d hd => by
  obtain ⟨a, ha, rfl⟩ := List.mem_map.mp hd
  exact h a ha
theorem sh_i64 (i : Int) : sh 64 (.int i) := sh_int _ _
theorem sh_n64 : sh 64 .non := sh_non _
theorem sh_str' (n : Nat) (x : Str) (h : PyData.canLay0 (.str x) = true) : sh n (.str x) := (sh_str n x).mpr h
/-! ### three ints -/
abbrev T3 := Int × Int × Int
def e3 (p : T3) : D := .tup [.int p.1, .int p.2.1, .int p.2.2]
theorem deq_e3 (a b : T3) : deq (e3 a) (e3 b) = decide (a = b) := by
  obtain ⟨a1, a2, a3⟩ := a
  obtain ⟨b1, b2, b3⟩ := b
  unfold e3
  rw [deq_cons, deq_cons, deq_cons, deq_nil, deq_int, deq_int, deq_int]
  by_cases h1 : a1 = b1
  · by_cases h2 : a2 = b2
    · by_cases h3 : a3 = b3
      · simp [h1, h2, h3]
      · simp [h1, h2, h3]
    · simp [h1, h2]
  · simp [h1]
theorem sh_e3 (p : T3) (n : Nat) : sh (n + 1) (e3 p) := (sh_tup _ _).mpr fun d hd => by
  simp only [List.mem_cons, List.not_mem_nil, or_false] at hd
  rcases hd with rfl | rfl | rfl <;> exact sh_int _ _
theorem vw_e3 (st : List Cell) (p : T3) : vw st (e3 p) = e3 p := rfl
theorem nkey_e3 (p : T3) : nkey (e3 p) = some (.tup [.num p.1, .num p.2.1, .num p.2.2]) := rfl
theorem nkey_e3_inj (a b : T3) : nkey (e3 a) = nkey (e3 b) ↔ a = b := by
  rw [nkey_e3, nkey_e3]
  refine ⟨fun h => ?_, fun h => by rw [h]⟩
  obtain ⟨a1, a2, a3⟩ := a
  obtain ⟨b1, b2, b3⟩ := b
  simp only [Option.some.injEq, NestedKey.tup.injEq, List.cons.injEq, NestedKey.num.injEq, and_true] at h
  obtain ⟨h1, h2, h3⟩ := h
  rw [h1, h2, h3]
theorem isKey_e3 (p : T3) : isKey (e3 p) := ⟨_, _, rfl, nkey_e3 p, (show (1 : Nat) ≤ 8 by decide)⟩
theorem isNon_e3 (p : T3) : isNon (e3 p) = false := rfl
/-! ### dicts by pairs -/
def aget {κ β : Type} [DecidableEq κ] : List (κ × β) → κ → Option β
  | [], _ => none
  | (k, v) :: m, x => if k = x then some v else aget m x
def aput {κ β : Type} [DecidableEq κ] : List (κ × β) → κ → β → List (κ × β)
  | [], x, y => [(x, y)]
  | (k, v) :: m, x, y => if k = x then (k, y) :: m else (k, v) :: aput m x y
structure KEnc {κ : Type} (e : κ → D) : Prop where
  inj : ∀ a b, nkey (e a) = nkey (e b) ↔ a = b
theorem kenc3 : KEnc e3 := ⟨nkey_e3_inj⟩
section
variable {κ β : Type} [DecidableEq κ] {e : κ → D} {v : β → D}
def kD (e : κ → D) (m : List (κ × β)) : List D := m.map fun p => e p.1
def vD (v : β → D) (m : List (κ × β)) : List D := m.map fun p => v p.2
theorem look_kv (h : KEnc e) : ∀ (m : List (κ × β)) (x : κ), lookD (kD e m) (vD v m) (e x) = (aget m x).map v
  | [], x => rfl
  | (k, y) :: m, x => by
    show (if nkey (e k) = nkey (e x) then some (v y) else lookD (kD e m) (vD v m) (e x)) = _
    unfold aget
    by_cases q : k = x
    · rw [if_pos ((h.inj k x).mpr q), if_pos q]; rfl
    · rw [if_neg (fun z => q ((h.inj k x).mp z)), if_neg q, look_kv h m x]
theorem put_kv (h : KEnc e) : ∀ (m : List (κ × β)) (x : κ) (y : β), putD (kD e m) (vD v m) (e x) (v y) = (kD e (aput m x y), vD v (aput m x y))
  | [], x, y => rfl
  | (k, z) :: m, x, y => by
    show (if nkey (e k) = nkey (e x) then _ else _) = _
    unfold aput
    by_cases q : k = x
    · rw [if_pos ((h.inj k x).mpr q), if_pos q]; rfl
    · rw [if_neg (fun z => q ((h.inj k x).mp z)), if_neg q]
      show (e k :: (putD (kD e m) (vD v m) (e x) (v y)).1, v z :: (putD (kD e m) (vD v m) (e x) (v y)).2) = _
      rw [put_kv h m x y]; rfl
theorem items_kv (m : List (κ × β)) : itemsD (kD e m) (vD v m) = m.map fun p => .tup [e p.1, v p.2] := by
  induction m with
  | nil => rfl
  | cons p m ih => exact congrArg (List.cons _) ih
theorem aget_put (m : List (κ × β)) (x y : κ) (v : β) : aget (aput m x v) y = if x = y then some v else aget m y := by
  induction m with
  | nil => rfl
  | cons p m ih =>
    obtain ⟨k, z⟩ := p
    unfold aput
    by_cases h : k = x
    · subst h
      rw [if_pos rfl]
      unfold aget
      by_cases h2 : k = y
      · rw [if_pos h2, if_pos h2]
      · rw [if_neg h2, if_neg h2, if_neg h2]
    · rw [if_neg h]
      unfold aget
      rw [ih]
      by_cases h2 : k = y
      · rw [if_pos h2, if_pos h2, if_neg (fun z => h (by rw [h2, z]))]
      · rw [if_neg h2, if_neg h2]
theorem aput_keys (m : List (κ × β)) (x : κ) (v : β) (h : aget m x = none) : (aput m x v).map (·.1) = m.map (·.1) ++ [x] := by
  induction m with
  | nil => rfl
  | cons p m ih =>
    obtain ⟨k, z⟩ := p
    unfold aget at h
    unfold aput
    by_cases q : k = x
    · rw [if_pos q] at h; cases h
    · rw [if_neg q] at h ⊢
      simp [ih h]
theorem aput_keys' (m : List (κ × β)) (x : κ) (v : β) : ∀ k, k ∈ (aput m x v).map (·.1) ↔ k ∈ m.map (·.1) ∨ k = x := by
  induction m with
  | nil => intro k; simp [aput]
  | cons p m ih =>
    obtain ⟨k0, z⟩ := p
    intro k
    unfold aput
    by_cases q : k0 = x
    · rw [if_pos q]; simp only [List.map_cons, List.mem_cons]; subst q; constructor
      · rintro (h | h); exact .inl (.inl h); exact .inl (.inr h)
      · rintro ((h | h) | h); exact .inl h; exact .inr h; exact .inl h
    · rw [if_neg q]; simp only [List.map_cons, List.mem_cons, ih]
      constructor
      · rintro (h | h | h); exact .inl (.inl h); exact .inl (.inr h); exact .inr h
      · rintro ((h | h) | h); exact .inl h; exact .inr (.inl h); exact .inr (.inr h)
theorem aput_nodup (m : List (κ × β)) (x : κ) (v : β) (h : (m.map (·.1)).Nodup) : ((aput m x v).map (·.1)).Nodup := by
  induction m with
  | nil => simp [aput]
  | cons p m ih =>
    obtain ⟨k0, z⟩ := p
    simp only [List.map_cons, List.nodup_cons] at h
    unfold aput
    by_cases q : k0 = x
    · rw [if_pos q]; simp only [List.map_cons, List.nodup_cons]; exact h
    · rw [if_neg q]
      simp only [List.map_cons, List.nodup_cons]
      refine ⟨fun hm => ?_, ih h.2⟩
      rcases (aput_keys' m x v k0).mp hm with z | z
      · exact h.1 z
      · exact q z
theorem aget_some_mem {m : List (κ × β)} {x : κ} {v : β} (h : aget m x = some v) : (x, v) ∈ m := by
  induction m with
  | nil => cases h
  | cons p m ih =>
    obtain ⟨k, z⟩ := p
    unfold aget at h
    by_cases q : k = x
    · rw [if_pos q] at h; cases h; rw [q]; exact List.mem_cons_self
    · rw [if_neg q] at h; exact List.mem_cons_of_mem _ (ih h)
theorem aget_none {m : List (κ × β)} {x : κ} : aget m x = none ↔ x ∉ m.map (·.1) := by
  induction m with
  | nil => simp [aget]
  | cons p m ih =>
    obtain ⟨k, z⟩ := p
    unfold aget
    by_cases q : k = x
    · rw [if_pos q]; simp [q]
    · rw [if_neg q, ih]; simp [Ne.symm q]
theorem aget_mem {m : List (κ × β)} (hn : (m.map (·.1)).Nodup) {x : κ} {v : β} (h : (x, v) ∈ m) : aget m x = some v := by
  induction m with
  | nil => cases h
  | cons p m ih =>
    obtain ⟨k, z⟩ := p
    simp only [List.map_cons, List.nodup_cons] at hn
    unfold aget
    rcases List.mem_cons.mp h with h | h
    · cases h; rw [if_pos rfl]
    · rw [if_neg (fun q => hn.1 (by rw [q]; exact List.mem_map_of_mem (f := fun p : κ × β => p.1) h)), ih hn.2 h]
end
/-! ### places -/
theorem atI_nat {α : Type} (l : List α) (n : Nat) (h : n < l.length) : atI l (n : Int) = some l[n] := by
  unfold atI ixN
  rw [if_pos (by omega), if_pos (by omega)]
  simp [h]
theorem atI_0 {α : Type} (a : α) (l : List α) : atI (a :: l) 0 = some a := atI_nat _ 0 (by simp)
theorem atI_1 {α : Type} (a b : α) (l : List α) : atI (a :: b :: l) 1 = some b := atI_nat _ 1 (by simp)
theorem atI_2 {α : Type} (a b c : α) (l : List α) : atI (a :: b :: c :: l) 2 = some c := atI_nat _ 2 (by simp)
theorem atI_map {α β : Type} (f : α → β) (l : List α) (i : Int) : atI (l.map f) i = (atI l i).map f := by
  unfold atI
  rw [List.length_map]
  cases ixN l.length i <;> simp
theorem ixN_nat (m n : Nat) (h : n < m) : ixN m (n : Int) = some n := by
  unfold ixN
  rw [if_pos (by omega), if_pos (by omega)]
  simp
/-- what a promise reads: slots of a store that is only added to -/
theorem app_get {α : Type} (l : List α) (x : α) : (l ++ [x])[l.length]? = some x := by simp
theorem app_set {α : Type} (l : List α) (x y : α) : (l ++ [x]).set l.length y = l ++ [y] := by simp
theorem wf_app {st : List Cell} (h : WfS st) {c : Cell} (hc : belC (st.length + 1) c) : True := trivial
end BB
set_option maxRecDepth 100000
/-! Tools, 2: the combinators applied; loops over typed lists; returns. -/
namespace BB
open PySem PySem.Spec PyProof.Rows L2
section
variable {ρ : DS} {Q : D → DS → Prop} {T : Bool → DS → Prop} {L : List D → DS → Prop} {P : DEnds} {R : DS → Prop}
theorem ap_var (i : Nat) : dVar i ρ Q = ∃ d, ρ.sl[i]? = some (some d) ∧ Q d ρ := rfl
theorem ap_c (d : D) : dC d ρ Q = Q d ρ := rfl
theorem ap_op (g : WP2) (a b : DE) : dOp g a b ρ Q = a ρ fun x ρ1 => b ρ1 fun y ρ2 => g x y ρ2.st fun z => Q z ρ2 := rfl
theorem ap_b (d : DE) : dB d ρ T = d ρ fun x ρ' => ∃ b, x = .bl b ∧ T b ρ' := rfl
theorem ap_chain (g g' : WP2) (a b c : DE) : dChain g g' a b c ρ Q = a ρ fun x ρ1 => b ρ1 fun y ρ2 => g x y ρ2.st fun z => ∃ k, z = .bl k ∧ if k = true then c ρ2 fun w ρ3 => g' y w ρ3.st fun z' => Q z' ρ3 else Q (.bl false) ρ2 := rfl
theorem ap_isN (a : DE) : dIsN a ρ Q = a ρ fun x ρ' => Q (.bl (isNon x)) ρ' := rfl
theorem ap_notN (a : DE) : dNotN a ρ Q = a ρ fun x ρ' => Q (.bl (!isNon x)) ρ' := rfl
theorem ap_not (t : DT) : dNot t ρ T = t ρ fun b ρ' => T (!b) ρ' := rfl
theorem ap_and (t u : DT) : dAnd t u ρ T = t ρ fun b ρ' => if b = true then u ρ' T else T false ρ' := rfl
theorem ap_or (t u : DT) : dOr t u ρ T = t ρ fun b ρ' => if b = true then T true ρ' else u ρ' T := rfl
theorem ap_notV (a : DE) : dNotV a ρ Q = a ρ fun x ρ' => ∃ b, x = .bl b ∧ Q (.bl (!b)) ρ' := rfl
theorem ap_andV (a b : DE) : dAndV a b ρ Q = a ρ fun x ρ' => ∃ c, x = .bl c ∧ if c = true then b ρ' Q else Q (.bl false) ρ' := rfl
theorem ap_orV (a b : DE) : dOrV a b ρ Q = a ρ fun x ρ' => ∃ c, x = .bl c ∧ if c = true then Q (.bl true) ρ' else b ρ' Q := rfl
theorem ap_if (t : DT) (a b : DE) : dIf t a b ρ Q = t ρ fun c ρ' => if c = true then a ρ' Q else b ρ' Q := rfl
theorem ap_nil : dNil ρ L = L [] ρ := rfl
theorem ap_cons (a : DE) (r : DA) : dCons a r ρ L = a ρ fun x ρ1 => r ρ1 fun xs ρ2 => L (x :: xs) ρ2 := rfl
theorem ap_tup (a : DA) : dTup a ρ Q = a ρ fun xs ρ1 => xs.length ≤ sizeLine ∧ Q (.tup xs) ρ1 := rfl
theorem ap_lst (a : DA) : dLst a ρ Q = a ρ fun xs ρ1 => xs.length ≤ sizeLine ∧ Q (.lst xs) ρ1 := rfl
theorem ap_newL (a : DA) : dNewL a ρ Q = a ρ fun xs ρ1 => xs.length ≤ sizeLine ∧ Q (.ptr ρ1.st.length) ⟨ρ1.sl, ρ1.st ++ [.lst xs]⟩ := rfl
theorem ap_call (n : Nat) (F : FS) (a : DA) : dCall n F a ρ Q = a ρ fun ds ρ1 => ds.length = n ∧ F ds ρ1.st fun z st => Q z ⟨ρ1.sl, st⟩ := rfl
theorem ap_bt (g : WPn) (a : DA) : dBt g a ρ Q = a ρ fun ds ρ1 => g ds ρ1.st fun z => Q z ρ1 := rfl
theorem ap_bm (g : WPM) (a : DE) (args : DA) : dBm g a args ρ Q = a ρ fun x ρ1 => isL ρ1.st x ∧ args ρ1 fun xs ρ2 => g x xs ρ2.st fun z st => Q z ⟨ρ2.sl, st⟩ := rfl
theorem ap_sl (a : DE) (l h : DO) : dSl a l h ρ Q = a ρ fun x ρ1 => l ρ1 fun lo ρ2 => h ρ2 fun hi ρ3 => match vw ρ3.st x with
  | .tup ds => Q (.tup (cutD ds lo hi)) ρ3
  | .lst ds => Q (.lst (cutD ds lo hi)) ρ3
  | _ => False := rfl
theorem ap_no {O : Option Int → DS → Prop} : dNoP ρ O = O none ρ := rfl
theorem ap_some {O : Option Int → DS → Prop} (a : DE) : dSome a ρ O = a ρ fun x ρ' => ∃ i, x = .int i ∧ O (some i) ρ' := rfl
theorem ap_rev (a : DE) : dRev a ρ Q = a ρ fun x ρ1 => match vw ρ1.st x with
  | .lst ds => Q (.lst ds.reverse) ρ1
  | .tup ds => Q (.tup ds.reverse) ρ1
  | _ => False := rfl
theorem ap_frz (e : DE) : dFrz e ρ Q = e ρ fun x ρ' => ∃ j, x = .ptr j ∧ match ρ'.st[j]? with
  | some (.lst ds) => Q (.lst ds) ⟨ρ'.sl, ρ'.st.set j .dead⟩
  | some (.dct ks vs) => Q (.dct ks vs) ⟨ρ'.sl, ρ'.st.set j .dead⟩
  | some (.dcs ks vs) => Q (.dcs ks vs) ⟨ρ'.sl, ρ'.st.set j .dead⟩
  | _ => False := rfl
theorem ap_get2 (a b c : DE) : dGet2 a b c ρ Q = a ρ fun x ρ1 => isDi ρ1.st x ∧ b ρ1 fun y ρ2 => c ρ2 fun z ρ3 => wGet x y z ρ3.st fun r => Q r ρ3 := rfl
theorem ap_oneT (kd vd : DE) : dOneT kd vd ρ Q = kd ρ fun k ρ1 => vd ρ1 fun v ρ2 => isKey k ∧ Q (.ptr ρ2.st.length) ⟨ρ2.sl, ρ2.st ++ [.dct [k] [v]]⟩ := rfl
theorem ap_newT : dNewT ρ Q = Q (.ptr ρ.st.length) ⟨ρ.sl, ρ.st ++ [.dct [] []]⟩ := rfl
theorem ap_newS : dNewS ρ Q = Q (.ptr ρ.st.length) ⟨ρ.sl, ρ.st ++ [.dcs [] []]⟩ := rfl
theorem ap_dictNew (w : World) (a : DE) : dDictNew w a ρ Q = a ρ fun x ρ1 => ∃ ks vs, dvT ρ1.st x = some (ks, vs) ∧ apartD w ks ∧ Q (.ptr ρ1.st.length) ⟨ρ1.sl, ρ1.st ++ [.dct ks vs]⟩ := rfl
theorem ap_isi (T : String) (a : DE) : dIsi T a ρ Q = a ρ fun x ρ' => ∃ b, isiD T x = some b ∧ Q (.bl b) ρ' := rfl
-- targets
theorem ap_gset (i : Nat) (d : D) : gSet i d ρ R = R ⟨ρ.sl.set i (some d), ρ.st⟩ := rfl
theorem ap_gend (ds : List D) : gEnd ds ρ R = (ds = [] ∧ R ρ) := rfl
theorem ap_gmore (g : DG) (r : DGs) (d : D) (es : List D) : gMore g r (d :: es) ρ R = (g d ρ fun ρ' => r es ρ' R) := propext ⟨fun ⟨_, _, e, h⟩ => by cases e; exact h, fun h => ⟨_, _, rfl, h⟩⟩
theorem ap_gtup (n : Nat) (r : DGs) (ds : List D) : gTupD n r (.tup ds) ρ R = (ds.length = n ∧ r ds ρ R) := propext ⟨fun ⟨_, e, h⟩ => by cases e; exact h, fun h => ⟨_, rfl, h⟩⟩
theorem ap_gtup3 (r : DGs) (p : T3) : gTupD 3 r (e3 p) ρ R = r [.int p.1, .int p.2.1, .int p.2.2] ρ R := (ap_gtup 3 r _).trans (propext ⟨fun h => h.2, fun h => ⟨rfl, h⟩⟩)
theorem ap_gsub (g : WPS) (o i : DE) (d : D) : gSubD g o i d ρ R = o ρ fun x ρ1 => i ρ1 fun y ρ2 => g x y d ρ2.st fun st => R ⟨ρ2.sl, st⟩ := rfl
-- statements
theorem ap_next : dNext P ρ = P.nx ρ := rfl
theorem ap_seq (a b : DP) : dSeq a b P ρ = a { P with nx := b P } ρ := rfl
theorem ap_drop (e : DE) : dDrop e P ρ = e ρ fun _ ρ' => P.nx ρ' := rfl
theorem ap_ret (e : DE) : dRet e P ρ = e ρ fun x ρ' => P.rt x ρ'.st := rfl
theorem ap_retN : dRetN P ρ = P.rt .non ρ.st := rfl
theorem ap_brk : dBrk P ρ = P.bk ρ := rfl
theorem ap_cont : dCont P ρ = P.ct ρ := rfl
theorem ap_ifS (t : DT) (a b : DP) : dIfS t a b P ρ = t ρ fun c ρ' => if c = true then a P ρ' else b P ρ' := rfl
theorem ap_asg (e : DE) (g : DG) : dAsg e g P ρ = e ρ fun x ρ' => g x ρ' P.nx := rfl
theorem ap_par (i j : Nat) (a : DA) : dPar i j a P ρ = a ρ fun xs ρ1 => ∃ x y, xs = [x, y] ∧ P.nx ⟨(ρ1.sl.set i (some x)).set j (some y), ρ1.st⟩ := rfl
theorem ap_par3 (i j l : Nat) (a : DA) : dPar3 i j l a P ρ = a ρ fun xs ρ1 => ∃ x y z, xs = [x, y, z] ∧ P.nx ⟨((ρ1.sl.set i (some x)).set j (some y)).set l (some z), ρ1.st⟩ := rfl
theorem ap_aug (i : Nat) (e : DE) : dAug i e P ρ = ∃ n, ρ.sl[i]? = some (some (.int n)) ∧ e ρ fun y ρ1 => ∃ m, y = .int m ∧ P.nx ⟨ρ1.sl.set i (some (.int (n + m))), ρ1.st⟩ := rfl
theorem ap_onx (n : Nat) (C : D → List Cell → Prop) : (endsOf n C).nx ρ = retOk n C .non ρ.st := rfl
theorem ap_ort (n : Nat) (C : D → List Cell → Prop) (x : D) (st : List Cell) : (endsOf n C).rt x st = retOk n C x st := rfl
-- iterables
theorem ap_it (e : DE) : dIt e ρ L = e ρ fun x ρ' => match x with
  | .lst ds => L ds ρ'
  | .tup ds => L ds ρ'
  | _ => False := rfl
theorem ap_enum (a : DA) : dEnum a ρ L = a ρ fun xs ρ' => ∃ ds, xs = [.lst ds] ∧ L (enumD 0 ds) ρ' := rfl
theorem ap_items (e : DE) : dItems e ρ L = e ρ fun x ρ' => ∃ ks vs, x = .dct ks vs ∧ L (itemsD ks vs) ρ' := rfl
theorem ap_rg1 (a : DA) : dRg1 a ρ L = a ρ fun xs ρ' => ∃ j : Int, xs = [.int j] ∧ j ≤ 16777216 ∧ L (intsD 0 j.toNat) ρ' := rfl
theorem ap_rg2 (a : DA) : dRg2 a ρ L = a ρ fun xs ρ' => ∃ i j : Int, xs = [.int i, .int j] ∧ 0 ≤ i ∧ i ≤ 16777216 ∧ j ≤ 16777216 ∧ L (intsD i (j - i).toNat) ρ' := rfl
theorem ap_zip (a : DA) : dZip a ρ L = a ρ fun xs ρ' => match xs with
  | [.lst ds, .lst es] => L (zipD ds es) ρ'
  | [.tup ds, .tup es] => L (zipD ds es) ρ'
  | _ => False := rfl
-- operations
variable {st : List Cell} {Z : D → Prop} {x y : D}
theorem ap_eq : wEq x y st Z = (sh 64 (vw st x) ∧ sh 64 (vw st y) ∧ Z (.bl (deq (vw st x) (vw st y)))) := rfl
theorem ap_ne : wNe x y st Z = (sh 64 (vw st x) ∧ sh 64 (vw st y) ∧ Z (.bl (!deq (vw st x) (vw st y)))) := rfl
theorem ap_i2 (f : Int → Int → Bool) (i j : Int) : wI2 f (.int i) (.int j) st Z = Z (.bl (f i j)) := propext ⟨fun ⟨_, _, e, e', h⟩ => by cases e; cases e'; exact h, fun h => ⟨_, _, rfl, rfl, h⟩⟩
theorem ap_arI (C : Int → Int → Prop) (f : Int → Int → Int) (i j : Int) : wArI C f (.int i) (.int j) st Z = (C i j ∧ Z (.int (f i j))) := propext ⟨fun ⟨_, _, e, e', h⟩ => by cases e; cases e'; exact h, fun h => ⟨_, _, rfl, rfl, h⟩⟩
theorem ap_addI (i j : Int) : wAdd (.int i) (.int j) st Z = Z (.int (i + j)) := rfl
theorem ap_addT (a b : List D) : wAdd (.tup a) (.tup b) st Z = (a.length + b.length ≤ sizeLine ∧ Z (.tup (a ++ b))) := rfl
theorem ap_addL (a b : List D) : wAdd (.lst a) (.lst b) st Z = (a.length + b.length ≤ sizeLine ∧ Z (.lst (a ++ b))) := rfl
theorem ap_ixT (ds : List D) (i : Int) : wIxA (.tup ds) (.int i) st Z = ∃ d, atI ds i = some d ∧ Z d := propext ⟨fun h => by
  obtain ⟨_, d, e, h⟩ := h; cases e; exact ⟨d, h⟩, fun ⟨d, h⟩ => ⟨i, d, rfl, h⟩⟩
theorem ap_ixL (ds : List D) (i : Int) : wIxA (.lst ds) (.int i) st Z = ∃ d, atI ds i = some d ∧ Z d := propext ⟨fun h => by
  obtain ⟨_, d, e, h⟩ := h; cases e; exact ⟨d, h⟩, fun ⟨d, h⟩ => ⟨i, d, rfl, h⟩⟩
theorem ap_ix3 (p : T3) (i : Int) : wIxA (e3 p) (.int i) st Z = ∃ d, atI [.int p.1, .int p.2.1, .int p.2.2] i = some d ∧ Z d := ap_ixT _ _
theorem ap_len (z : D) : wLen [z] st Z = wLen [z] st Z := rfl
theorem ex_at0 {a : D} {l : List D} : (∃ d, atI (a :: l) 0 = some d ∧ Z d) = Z a := by rw [atI_0]; exact propext ⟨fun ⟨_, e, h⟩ => by cases e; exact h, fun h => ⟨_, rfl, h⟩⟩
theorem ex_at1 {a b : D} {l : List D} : (∃ d, atI (a :: b :: l) 1 = some d ∧ Z d) = Z b := by rw [atI_1]; exact propext ⟨fun ⟨_, e, h⟩ => by cases e; exact h, fun h => ⟨_, rfl, h⟩⟩
theorem ex_at2 {a b c : D} {l : List D} : (∃ d, atI (a :: b :: c :: l) 2 = some d ∧ Z d) = Z c := by rw [atI_2]; exact propext ⟨fun ⟨_, e, h⟩ => by cases e; exact h, fun h => ⟨_, rfl, h⟩⟩
theorem ex_sl {d : D} {o : Option (Option D)} (h : o = some (some d)) : (∃ x, o = some (some x) ∧ Z x) = Z d := by rw [h]; exact propext ⟨fun ⟨_, e, h⟩ => by cases e; exact h, fun h => ⟨_, rfl, h⟩⟩
theorem ex_bl {b : Bool} {Y : Bool → Prop} : (∃ c, D.bl b = D.bl c ∧ Y c) = Y b := propext ⟨fun ⟨_, e, h⟩ => by cases e; exact h, fun h => ⟨_, rfl, h⟩⟩
theorem ex_int {b : Int} {Y : Int → Prop} : (∃ c, D.int b = D.int c ∧ Y c) = Y b := propext ⟨fun ⟨_, e, h⟩ => by cases e; exact h, fun h => ⟨_, rfl, h⟩⟩
theorem ex_sli {b : Int} {Y : Int → Prop} : (∃ c, some (some (D.int b)) = some (some (D.int c)) ∧ Y c) = Y b := propext ⟨fun ⟨_, e, h⟩ => by cases e; exact h, fun h => ⟨_, rfl, h⟩⟩
theorem ex_som {b : D} {Y : D → Prop} : (∃ c, some (some b) = some (some c) ∧ Y c) = Y b := propext ⟨fun ⟨_, e, h⟩ => by cases e; exact h, fun h => ⟨_, rfl, h⟩⟩
theorem ex_ptr {b : Nat} {Y : Nat → Prop} : (∃ c, D.ptr b = D.ptr c ∧ Y c) = Y b := propext ⟨fun ⟨_, e, h⟩ => by cases e; exact h, fun h => ⟨_, rfl, h⟩⟩
theorem ex_l1i {b : Int} {Y : Int → Prop} : (∃ c, [D.int b] = [D.int c] ∧ Y c) = Y b := propext ⟨fun ⟨_, e, h⟩ => by cases e; exact h, fun h => ⟨_, rfl, h⟩⟩
theorem ex_l1l {b : List D} {Y : List D → Prop} : (∃ c, [D.lst b] = [D.lst c] ∧ Y c) = Y b := propext ⟨fun ⟨_, e, h⟩ => by cases e; exact h, fun h => ⟨_, rfl, h⟩⟩
theorem al_l1i {b : Int} {Y : Int → Prop} : (∀ c, [D.int b] = [D.int c] → Y c) = Y b := propext ⟨fun h => h b rfl, fun h c e => by cases e; exact h⟩
end
/-! ### loops -/
theorem dFor_pre {α : Type} {e : α → D} {l : List α} {di : DI} {g : DG} {b : DP} {P : DEnds} {ρ : DS} (W : List α → DS → Prop) (hdi : ∀ L : List D → DS → Prop, L (l.map e) ρ → di ρ L) (h0 : W [] ρ)
    (step : ∀ done a rest ρ', l = done ++ a :: rest → W done ρ' → g (e a) ρ' fun ρ2 => b { P with nx := W (done ++ [a]), ct := W (done ++ [a]), bk := P.nx } ρ2) (fin : ∀ ρ', W l ρ' → P.nx ρ') : dFor di g b P ρ := by
  refine hdi _ ⟨fun i ρ' => W (l.take i) ρ', by simpa using h0, fun i x ρ' hx hw => ?_, fun ρ' hw => fin ρ' (by simpa using hw)⟩
  rw [List.getElem?_map] at hx
  cases q : l[i]? with
  | none => rw [q] at hx; cases hx
  | some a =>
    rw [q] at hx
    cases hx
    obtain ⟨hi, ea⟩ := List.getElem?_eq_some_iff.mp q
    have e1 : l.take (i + 1) = l.take i ++ [a] := by rw [List.take_succ, q]; rfl
    have := step (l.take i) a (l.drop (i + 1)) ρ' (by rw [← ea]; simp) hw
    rw [← e1] at this
    exact this
theorem dLc_map {α : Type} {e : α → D} {f : α → D} {l : List α} {di : DI} {g : DG} {ee : DE} {vs : List Nat} {ρ : DS} {Q : D → DS → Prop} (hdi : ∀ L : List D → DS → Prop, L (l.map e) ρ → di ρ L)
    (he : ∀ a ∈ l, ∀ P : D → DS → Prop, (∀ ρ' : DS, ρ'.st = ρ.st → P (f a) ρ') → g (e a) ⟨wipeD ρ.sl vs, ρ.st⟩ fun ρ2 => ee ρ2 P) (hQ : Q (.lst (l.map f)) ρ) : dLc di g dYes ee vs ρ Q := by
  refine hdi _ ⟨fun i acc st => acc = (l.take i).map f ∧ st = ρ.st, ⟨by simp, rfl⟩, fun i x acc st hx ⟨ha, hs⟩ => ?_, fun acc st ⟨ha, hs⟩ => ?_⟩
  · subst hs
    rw [List.getElem?_map] at hx
    cases q : l[i]? with
    | none => rw [q] at hx; cases hx
    | some a =>
      rw [q] at hx
      cases hx
      have e1 : l.take (i + 1) = l.take i ++ [a] := by rw [List.take_succ, q]; rfl
      refine he a (List.mem_of_getElem? q) _ fun ρ' h => ⟨?_, h⟩
      rw [e1, ha]; simp
  · subst hs; subst ha
    simpa using hQ
/-- a comprehension with a test -/
theorem dLc_filter {α : Type} {e : α → D} {p : α → Bool} {f : α → D} {l : List α} {di : DI} {g : DG} {t : DT} {ee : DE} {vs : List Nat} {ρ : DS} {Q : D → DS → Prop} (hdi : ∀ L : List D → DS → Prop, L (l.map e) ρ → di ρ L)
    (he : ∀ a ∈ l, ∀ (C : D → DS → Prop) (N : DS → Prop), (p a = true → ∀ ρ' : DS, ρ'.st = ρ.st → C (f a) ρ') → (p a = false → ∀ ρ' : DS, ρ'.st = ρ.st → N ρ') → g (e a) ⟨wipeD ρ.sl vs, ρ.st⟩ fun ρ2 => t ρ2 fun c ρ3 => if c = true then ee ρ3 C else N ρ3)
    (hQ : Q (.lst ((l.filter p).map f)) ρ) : dLc di g t ee vs ρ Q := by
  refine hdi _ ⟨fun i acc st => acc = ((l.take i).filter p).map f ∧ st = ρ.st, ⟨by simp, rfl⟩, fun i x acc st hx ⟨ha, hs⟩ => ?_, fun acc st ⟨ha, hs⟩ => ?_⟩
  · subst hs
    rw [List.getElem?_map] at hx
    cases q : l[i]? with
    | none => rw [q] at hx; cases hx
    | some a =>
      rw [q] at hx
      cases hx
      have e1 : l.take (i + 1) = l.take i ++ [a] := by rw [List.take_succ, q]; rfl
      refine he a (List.mem_of_getElem? q) _ _ (fun hp ρ' h => ⟨?_, h⟩) (fun hp ρ' h => ⟨?_, h⟩)
      · rw [e1, ha]; simp [List.filter_append, hp]
      · rw [e1, ha]; simp [List.filter_append, hp]
  · subst hs; subst ha
    simpa using hQ
/-! ### returns -/
theorem ret_same {st : List Cell} {C : D → List Cell → Prop} {x : D} (hw : WfS st) (hb : bel st.length x) (h : C x st) : retOk st.length C x st := ⟨st, [], by simp, Nat.le_refl _, hb, hw, h⟩
theorem ret_app {st more : List Cell} {C : D → List Cell → Prop} {x : D} (hw : WfS st) (hb : bel st.length x) (h : C x st) : retOk st.length C x (st ++ more) := ⟨st, more, rfl, Nat.le_refl _, hb, hw, h⟩
theorem bel_int (n : Nat) (i : Int) : bel n (.int i) := by unfold bel; trivial
theorem bel_non (n : Nat) : bel n .non := by unfold bel; trivial
theorem bel_bl (n : Nat) (b : Bool) : bel n (.bl b) := by unfold bel; trivial
theorem bel_str (n : Nat) (b : Str) : bel n (.str b) := by unfold bel; trivial
theorem bel_tup (n : Nat) (ds : List D) : bel n (.tup ds) ↔ ∀ d ∈ ds, bel n d := by rw [bel]; exact bels_iff n ds
theorem bel_lst (n : Nat) (ds : List D) : bel n (.lst ds) ↔ ∀ d ∈ ds, bel n d := by rw [bel]; exact bels_iff n ds
theorem bel_e3 (n : Nat) (p : T3) : bel n (e3 p) := (bel_tup _ _).mpr fun d hd => by
  simp only [List.mem_cons, List.not_mem_nil, or_false] at hd
  rcases hd with rfl | rfl | rfl <;> exact bel_int _ _
theorem bel_map {α : Type} {e : α → D} {n : Nat} {l : List α} (h : ∀ a ∈ l, bel n (e a)) : bel n (.tup (l.map e)) := (bel_tup _ _).mpr fun d hd => by
  obtain ⟨a, ha, rfl⟩ := List.mem_map.mp hd
  exact h a ha
theorem bel_mapL {α : Type} {e : α → D} {n : Nat} {l : List α} (h : ∀ a ∈ l, bel n (e a)) : bel n (.lst (l.map e)) := (bel_lst _ _).mpr fun d hd => by
  obtain ⟨a, ha, rfl⟩ := List.mem_map.mp hd
  exact h a ha
theorem bel_dct {κ β : Type} {e : κ → D} {v : β → D} {n : Nat} {m : List (κ × β)} (h : ∀ p ∈ m, bel n (e p.1) ∧ bel n (v p.2)) : bel n (.dct (kD e m) (vD v m)) := by
  rw [bel, bels_iff, bels_iff]
  refine ⟨fun d hd => ?_, fun d hd => ?_⟩
  · obtain ⟨a, ha, rfl⟩ := List.mem_map.mp hd
    exact (h a ha).1
  · obtain ⟨a, ha, rfl⟩ := List.mem_map.mp hd
    exact (h a ha).2
/-! ### hashes -/
def h3 (p : T3) : Int := reduceHash (Builtin.Tuple.tupleHashOf [hashInt p.1, hashInt p.2.1, hashInt p.2.2])
theorem hash_e3 (w : World) (p : T3) : (nkey (e3 p)).map (fun n => n.hash w) = some (h3 p) := rfl
def box (a b c : Nat) : List T3 := (List.range a).flatMap fun (i : Nat) => (List.range b).flatMap fun (j : Nat) => (List.range c).map fun (k : Nat) => ((i : Int), (j : Int), (k : Int))
theorem mem_box {a b c : Nat} {p : T3} (h1 : 0 ≤ p.1) (h1' : p.1 < a) (h2 : 0 ≤ p.2.1) (h2' : p.2.1 < b) (h3 : 0 ≤ p.2.2) (h3' : p.2.2 < c) : p ∈ box a b c := by
  unfold box
  simp only [List.mem_flatMap, List.mem_range, List.mem_map]
  refine ⟨p.1.toNat, by omega, p.2.1.toNat, by omega, p.2.2.toNat, by omega, ?_⟩
  obtain ⟨x, y, z⟩ := p
  simp only at *
  rw [Int.toNat_of_nonneg h1, Int.toNat_of_nonneg h2, Int.toNat_of_nonneg h3]
theorem inj_of_nodup {α β : Type} {f : α → β} : ∀ {l : List α}, (l.map f).Nodup → ∀ a ∈ l, ∀ b ∈ l, f a = f b → a = b
  | [], _, a, ha, _, _, _ => nomatch ha
  | x :: l, h, a, ha, b, hb, e => by
    rw [List.map_cons, List.nodup_cons] at h
    rcases List.mem_cons.mp ha with ha | ha
    · rcases List.mem_cons.mp hb with hb | hb
      · rw [ha, hb]
      · rw [ha] at e
        exact absurd (List.mem_map_of_mem (f := f) hb) (by rw [← e]; exact h.1)
    · rcases List.mem_cons.mp hb with hb | hb
      · rw [hb] at e
        exact absurd (List.mem_map_of_mem (f := f) ha) (by rw [e]; exact h.1)
      · exact inj_of_nodup h.2 a ha b hb e
theorem nodup_map_on {α β : Type} {f : α → β} : ∀ {l : List α}, l.Nodup → (∀ a ∈ l, ∀ b ∈ l, f a = f b → a = b) → (l.map f).Nodup
  | [], _, _ => List.nodup_nil
  | x :: l, h, i => by
    rw [List.nodup_cons] at h
    rw [List.map_cons, List.nodup_cons]
    refine ⟨fun hm => ?_, nodup_map_on h.2 fun a ha b hb => i a (List.mem_cons_of_mem _ ha) b (List.mem_cons_of_mem _ hb)⟩
    obtain ⟨b, hb, e⟩ := List.mem_map.mp hm
    have := i b (List.mem_cons_of_mem _ hb) x List.mem_cons_self e
    rw [this] at hb
    exact h.1 hb
theorem box_hash : ((box 8 2 6).map h3).Nodup := by decide +kernel
theorem apart3 {β : Type} (w : World) (m : List (T3 × β)) (hn : (m.map (·.1)).Nodup) (hb : ∀ k ∈ m.map (·.1), k ∈ box 8 2 6) : apartD w (kD e3 m) := by
  unfold apartD kD
  rw [List.map_map]
  have e : (m.map ((fun k => (nkey k).map fun n => n.hash w) ∘ fun p : T3 × β => e3 p.1)) = (m.map (·.1)).map fun p => some (h3 p) := by
    rw [List.map_map]
    exact List.map_congr_left fun p _ => hash_e3 w p.1
  rw [e]
  exact nodup_map_on hn fun a ha b hb' q => inj_of_nodup box_hash a (hb a ha) b (hb b hb') (Option.some.inj q)
end BB
namespace BB
open PySem PySem.Spec PyProof.Rows L2
section
variable {st : List Cell} {Z : D → Prop} {R : DS → Prop} {ρ : DS}
theorem vw_i (i : Int) : vw st (.int i) = .int i := rfl
theorem vw_t (i : List D) : vw st (.tup i) = .tup i := rfl
theorem vw_l (i : List D) : vw st (.lst i) = .lst i := rfl
theorem vw_s (i : Str) : vw st (.str i) = .str i := rfl
theorem vw_n : vw st .non = .non := rfl
theorem vw_b (b : Bool) : vw st (.bl b) = .bl b := rfl
theorem vw_cell {j : Nat} {ds : List D} (h : st[j]? = some (.lst ds)) : vw st (.ptr j) = .lst ds := by simp [vw, h]
theorem ex_one {x : D} {Y : D → Prop} : (∃ c, [x] = [c] ∧ Y c) = Y x := propext ⟨fun ⟨_, e, h⟩ => by cases e; exact h, fun h => ⟨_, rfl, h⟩⟩
theorem ap_wlen (x : D) : wLen [x] st Z = (match vw st x with
  | .lst es => Z (.int es.length)
  | .tup es => Z (.int es.length)
  | _ => False) := ex_one
theorem ap_wtup (x : D) : wTupOf [x] st Z = (match vw st x with
  | .lst es => Z (.tup es)
  | .tup es => Z (.tup es)
  | _ => False) := ex_one
theorem ite_dec {p : Prop} [Decidable p] {a b : Prop} (h1 : p → a) (h2 : ¬p → b) : if p then a else b := by
  by_cases h : p
  · rw [if_pos h]; exact h1 h
  · rw [if_neg h]; exact h2 h
end
end BB
namespace BB
open PySem PySem.Spec PyProof.Rows L2
theorem wApp_new {st : List Cell} {es : List D} {y : D} {P : D → List Cell → Prop} (hl : es.length < sizeLine) (h : P .non (st ++ [.lst (es ++ [y])])) : wApp (.ptr st.length) [y] (st ++ [.lst es]) P :=
  ⟨_, _, _, rfl, rfl, app_get _ _, hl, by rw [app_set]; exact h⟩
theorem isL_new {st : List Cell} {es : List D} : isL (st ++ [.lst es]) (.ptr st.length) := ⟨es, vw_cell (app_get _ _)⟩
theorem sz1000 : 1000 < sizeLine := by decide
end BB
namespace BB
theorem isN_n : isNon .non = true := rfl
theorem isN_i (i : Int) : isNon (.int i) = false := rfl
theorem isN_t (i : List D) : isNon (.tup i) = false := rfl
theorem isN_l (i : List D) : isNon (.lst i) = false := rfl
theorem isN_b (b : Bool) : isNon (.bl b) = false := rfl
theorem isN_p (j : Nat) : isNon (.ptr j) = false := rfl
end BB
namespace BB
open PySem PySem.Spec PyProof.Rows L2
/-- what a statement leaves, said once -/
theorem nx_gen {a : DP} {P : DEnds} {ρ : DS} (I : DS → Prop) (fin : ∀ ρ', I ρ' → P.nx ρ') (h : ∀ M : DS → Prop, (∀ ρ', I ρ' → M ρ') → a { P with nx := M } ρ) : a P ρ := h P.nx fin
theorem WfS.set {st : List Cell} (h : WfS st) {j : Nat} {c : Cell} (hc : belC st.length c) : WfS (st.set j c) := fun d hd => by
  rw [List.length_set]
  rcases List.mem_or_eq_of_mem_set hd with z | z
  · exact h d z
  · rw [z]; exact hc
theorem ret_set {st more : List Cell} {C : D → List Cell → Prop} {x : D} {j : Nat} {c : Cell} (hw : WfS st) (hc : belC st.length c) (hb : bel st.length x) (h : C x (st.set j c)) : retOk st.length C x (st.set j c ++ more) :=
  ⟨st.set j c, more, rfl, by simp, by rw [List.length_set]; exact hb, hw.set hc, h⟩
theorem ret_set0 {st : List Cell} {C : D → List Cell → Prop} {x : D} {j : Nat} {c : Cell} (hw : WfS st) (hc : belC st.length c) (hb : bel st.length x) (h : C x (st.set j c)) : retOk st.length C x (st.set j c) :=
  ⟨st.set j c, [], by simp, by simp, by rw [List.length_set]; exact hb, hw.set hc, h⟩
section
variable {st : List Cell} {j : Nat} {es : List D} {Z : D → Prop} {P : List Cell → Prop}
theorem ix_cell (hj : st[j]? = some (.lst es)) (i : Int) : wIxA (.ptr j) (.int i) st Z = ∃ d, atI es i = some d ∧ Z d := by
  unfold wIxA
  rw [vw_cell hj]
  exact propext ⟨fun h => by obtain ⟨_, d, e, h⟩ := h; cases e; exact ⟨d, h⟩, fun ⟨d, h⟩ => ⟨i, d, rfl, h⟩⟩
theorem set_cellL (hj : st[j]? = some (.lst es)) (n : Nat) (hn : n < es.length) (d : D) (h : P (st.set j (.lst (es.set n d)))) : wSetA (.ptr j) (.int (n : Int)) d st P := by
  unfold wSetA
  simp only [hj]
  exact ⟨_, _, _, n, rfl, hj, rfl, ixN_nat _ _ hn, h⟩
theorem set_get (hj : st[j]? = some (.lst es)) (c : Cell) : (st.set j c)[j]? = some c := by
  have hl := (List.getElem?_eq_some_iff.mp hj).1
  rw [List.getElem?_set_self hl]
theorem belC_lst (n : Nat) (ds : List D) (h : ∀ d ∈ ds, bel n d) : belC n (.lst ds) := (bels_iff n ds).mpr h
end
end BB
namespace BB
theorem set_self {α : Type} {l : List α} {j : Nat} {c : α} (h : l[j]? = some c) : l.set j c = l := by
  apply List.ext_getElem?
  intro i
  by_cases e : j = i
  · subst e
    rw [List.getElem?_set_self (List.getElem?_eq_some_iff.mp h).1, h]
  · rw [List.getElem?_set_ne e]
end BB
namespace BB
theorem snoc_ind {α : Type} {P : List α → Prop} (h0 : P []) (h1 : ∀ l a, P l → P (l ++ [a])) (l : List α) : P l := by
  have : ∀ k : List α, P k.reverse := fun k => by
    induction k with
    | nil => exact h0
    | cons a k ih => rw [List.reverse_cons]; exact h1 _ _ ih
  rw [← l.reverse_reverse]; exact this _
end BB
namespace BB
open PySem PySem.Spec PyProof.Rows L2
/-- .. where what is walked changes the state -/
theorem dFor_pre2 {α : Type} {e : α → D} {l : List α} {di : DI} {g : DG} {b : DP} {P : DEnds} {ρ ρ1 : DS} (W : List α → DS → Prop) (hdi : ∀ L : List D → DS → Prop, L (l.map e) ρ1 → di ρ L) (h0 : W [] ρ1)
    (step : ∀ done a rest ρ', l = done ++ a :: rest → W done ρ' → g (e a) ρ' fun ρ2 => b { P with nx := W (done ++ [a]), ct := W (done ++ [a]), bk := P.nx } ρ2) (fin : ∀ ρ', W l ρ' → P.nx ρ') : dFor di g b P ρ := by
  refine hdi _ ?_
  have := dFor_pre (e := e) (l := l) (di := fun _ L => L (l.map e) ρ1) (g := g) (b := b) (P := P) (ρ := ρ1) W (fun L h => h) h0 step fin
  exact this
end BB
set_option maxRecDepth 100000
/-! k08: the program over plain data, and what each def promises. -/
namespace BB
open PySem PySem.Spec PyProof.Rows L2
abbrev Stand := List T3
def eSt (s : Stand) : D := .tup (s.map e3)
inductive Deed where
  | press (n : Nat)
  | swap (n : Nat)
  | over (n : Nat)
  | about (n : Nat)
  | wait (n : Nat)
def Deed.word : Deed → Str
  | .press _ => "press"
  | .swap _ => "swap"
  | .over _ => "over"
  | .about _ => "about"
  | .wait _ => "wait"
def Deed.num : Deed → Nat
  | .press n => n
  | .swap n => n
  | .over n => n
  | .about n => n
  | .wait n => n
def eD (d : Deed) : D := .tup [.str d.word, .int (d.num : Int)]
def eR (r : List Deed) : D := .lst (r.map eD)
def eSh (L C : Nat) : D := .tup [.int (L : Int), .int (C : Int)]
abbrev Pr := T3 × T3
def ePr (x : Pr) : D := .tup [e3 x.1, e3 x.2]
def ePrs (xs : List Pr) : D := .lst (xs.map ePr)
abbrev Ev := Nat × Int × List Pr
def eEv (e : Ev) : D := .tup [.int (e.1 : Int), .int e.2.1, ePrs e.2.2]
def eEvs (xs : List Ev) : D := .lst (xs.map eEv)
def eO : Option T3 → D
  | some p => e3 p
  | none => .non
def eRd (r : List Nat) : D := .tup (r.map fun (n : Nat) => D.int (n : Int))
def eORd : Option (List Nat) → D
  | some p => eRd p
  | none => .non
abbrev Rv := Int × Int × List Nat
def eRv (v : Rv) : D := .tup [.int v.1, .int v.2.1, eRd v.2.2]
def eOI : Option Int → D
  | some i => .int i
  | none => .non

def F_is_within : FS := fun ds st Q => ∃ x lo hi : Int, ds = [.int x, .int lo, .int hi] ∧ Q (.bl (decide (lo ≤ x) && decide (x ≤ hi))) st
def riseB (xs : List Int) : Bool := (xs.zip (xs.drop 1)).all fun p => decide (p.1 < p.2)
def F_rise : FS := fun ds st Q => ∃ xs : List Int, ds = [.tup (xs.map .int)] ∧ Q (.bl (riseB xs)) st
def ffb (C : Nat) (a c : Int) : Int := if a = 1 then (C : Int) - 1 - c else c
def F_far_from_back : FS := fun ds st Q => ∃ (L C : Nat) (a c : Int), ds = [eSh L C, .int a, .int c] ∧ Q (.int (ffb C a c)) st
def leafIx (s : Stand) (l : Int) : Option Nat := s.findIdx? fun p => decide (p.1 = l)
def touchM (C : Nat) (s : Stand) (sp : T3) (g : Nat) (p : T3) : Option T3 :=
  let o : Int := if sp.2.1 = p.2.1 then (g : Int) - 1 else (g : Int) + 1
  if 0 ≤ o ∧ o < (s.length : Int) then (atI s o).map fun q => (q.1, (if o < (g : Int) then 1 - q.2.1 else q.2.1), ffb C q.2.2 (ffb C p.2.2 sp.2.2)) else none
def F_touched : FS := fun ds st Q => ∃ (L C : Nat) (s : Stand) (sp : T3) (g : Nat) (p : T3), ds = [eSh L C, eSt s, e3 sp] ∧ leafIx s sp.1 = some g ∧ s[g]? = some p ∧ Q (eO (touchM C s sp g p)) st
def pairsM (C : Nat) (p q : T3) : List Pr := (List.range C).map fun (c : Nat) => ((p.1, 1 - p.2.1, (c : Int)), (q.1, q.2.1, ffb C q.2.2 (ffb C p.2.2 (c : Int))))
def F_pairs_at : FS := fun ds st Q => ∃ (L C : Nat) (s : Stand) (g : Nat) (p q : T3), ds = [eSh L C, eSt s, .int (g : Int)] ∧ s[g]? = some p ∧ s[g + 1]? = some q ∧ (s.map (·.1)).Nodup ∧ (p.2.1 = 0 ∨ p.2.1 = 1) ∧ C ≤ 1000 ∧ Q (ePrs (pairsM C p q)) st
def takesM : Deed → Int
  | .wait n => (n : Int)
  | _ => 1
def F_takes : FS := fun ds st Q => ∃ d : Deed, ds = [eD d] ∧ Q (.int (takesM d)) st
def ticksM (r : List Deed) : Int := (r.map takesM).sum
def F_ticks : FS := fun ds st Q => ∃ r : List Deed, ds = [eR r] ∧ Q (.int (ticksM r)) st
def swapM {α : Type} : List α → Nat → List α
  | x :: y :: l, 0 => y :: x :: l
  | x :: l, k + 1 => x :: swapM l k
  | l, _ => l
def modM {α : Type} (f : α → α) : List α → Nat → List α
  | x :: l, 0 => f x :: l
  | x :: l, k + 1 => x :: modM f l k
  | [], _ => []
def movedM (s : Stand) : Deed → Stand
  | .swap k => swapM s k
  | .over k => modM (fun p => (p.1, 1 - p.2.1, p.2.2)) s k
  | .about k => modM (fun p => (p.1, p.2.1, 1 - p.2.2)) s k
  | _ => s
def okDeed (n : Nat) : Deed → Prop
  | .press k => k + 1 < n
  | .swap k => k + 1 < n
  | .over k => k < n
  | .about k => k < n
  | .wait _ => True
def F_moved : FS := fun ds st Q => ∃ (s : Stand) (d : Deed), ds = [eSt s, eD d] ∧ okDeed s.length d ∧ s.length ≤ 1000 ∧ Q (eSt (movedM s d)) st
def behindM (s : Stand) (r : List Deed) : Stand := r.foldl movedM s
def F_behind : FS := fun ds st Q => ∃ (s : Stand) (r : List Deed), ds = [eSt s, eR r] ∧ (∀ d ∈ r, okDeed s.length d) ∧ s.length ≤ 1000 ∧ Q (eSt (behindM s r)) st
structure OkStand (s : Stand) : Prop where
  nd : (s.map (·.1)).Nodup
  ov : ∀ p ∈ s, p.2.1 = 0 ∨ p.2.1 = 1
  ab : ∀ p ∈ s, p.2.2 = 0 ∨ p.2.2 = 1
  sz : s.length ≤ 1000
def pairsAt (C : Nat) (s : Stand) (k : Nat) : List Pr := match s[k]?, s[k + 1]? with
  | some p, some q => pairsM C p q
  | _, _ => []
def isPress : Deed → Option Nat
  | .press k => some k
  | _ => none
def pressM (C : Nat) : Stand → Nat → Int → List Deed → List Ev
  | _, _, _, [] => []
  | s, at_, t, d :: r => (match isPress d with
    | some k => [(at_, t, pairsAt C s k)]
    | none => []) ++ pressM C (movedM s d) (at_ + 1) (t + takesM d) r
def evsOf (C : Nat) (s : Stand) (r : List Deed) : List Ev := pressM C s 0 0 r
structure OkAll (C : Nat) (s : Stand) (r : List Deed) : Prop where
  st : OkStand s
  row : ∀ d ∈ r, okDeed s.length d
  len : r.length ≤ 1000
  cel : C ≤ 1000
def F_presses : FS := fun ds st Q => ∃ (L C : Nat) (s : Stand) (r : List Deed), ds = [eSh L C, eSt s, eR r] ∧ OkAll C s r ∧ Q (eEvs (evsOf C s r)) st
def partM : List Pr → T3 → Option T3
  | [], _ => none
  | (a, b) :: r, x => if x = a then some b else if x = b then some a else partM r x
def F_partner : FS := fun ds st Q => ∃ (ps : List Pr) (x : T3), ds = [ePrs ps, e3 x] ∧ Q (eO (partM ps x)) st
def roadStep (f wet : Int) (m : List (T3 × Rv)) (ev : Ev) : List (T3 × Rv) :=
  if f ≤ ev.2.1 ∧ ev.2.1 < f + wet then m.foldl (fun m' p => match partM ev.2.2 p.1 with
    | some t => if aget m t = none then aput m' t (ev.2.1, p.2.2.1 + 1, p.2.2.2 ++ [ev.1]) else m'
    | none => m') m else m
def roadsM (f wet : Int) (x : T3) (evs : List Ev) : List (T3 × Rv) := evs.foldl (roadStep f wet) [(x, (f, 0, []))]
/-- all spots of the pairs lie in the box -/
def InBox (evs : List Ev) : Prop := ∀ ev ∈ evs, ∀ p ∈ ev.2.2, p.1 ∈ box 8 2 6 ∧ p.2 ∈ box 8 2 6
def eDrop (f : Int) (x : T3) (wet : Int) : D := .tup [.int f, e3 x, .int wet]
def F_roads : FS := fun ds st Q => ∃ (L C : Nat) (s : Stand) (r : List Deed) (f wet : Int) (x : T3), ds = [eSh L C, eSt s, eR r, eDrop f x wet] ∧ OkAll C s r ∧ InBox (evsOf C s r) ∧ x ∈ box 8 2 6 ∧
  Q (.dct (kD e3 (roadsM f wet x (evsOf C s r))) (vD eRv (roadsM f wet x (evsOf C s r)))) st
def betterM (a : List Nat) : Option (List Nat) → Bool
  | none => true
  | some b => dlt (.tup [.int (a.length : Int), eRd a]) (.tup [.int (b.length : Int), eRd b])
def F_is_better : FS := fun ds st Q => ∃ (a : List Nat) (o : Option (List Nat)), ds = [eRd a, eORd o] ∧ Q (.bl (betterM a o)) st
def bestStep (f wet t0 : Int) (m : List (T3 × List Nat)) (ev : Ev) : List (T3 × List Nat) :=
  if (f ≤ ev.2.1 ∧ ev.2.1 ≤ t0) ∧ ev.2.1 < f + wet then m.foldl (fun m' p => match partM ev.2.2 p.1 with
    | some t => if betterM (p.2 ++ [ev.1]) (aget m' t) = true then aput m' t (p.2 ++ [ev.1]) else m'
    | none => m') m else m
def bestM (f wet t0 : Int) (x : T3) (evs : List Ev) : List (T3 × List Nat) := evs.foldl (bestStep f wet t0) [(x, [])]
def bestOf (f wet : Int) (x g : T3) (evs : List Ev) : Option (List Nat) := match aget (roadsM f wet x evs) g with
  | none => none
  | some v => aget (bestM f wet v.1 x evs) g
def BestIs (f wet : Int) (x g : T3) (evs : List Ev) : Prop := ∀ v, aget (roadsM f wet x evs) g = some v → (aget (bestM f wet v.1 x evs) g).isSome = true
def F_best_road : FS := fun ds st Q => ∃ (L C : Nat) (s : Stand) (r : List Deed) (f wet : Int) (x g : T3), ds = [eSh L C, eSt s, eR r, eDrop f x wet, e3 g] ∧ OkAll C s r ∧ InBox (evsOf C s r) ∧ x ∈ box 8 2 6 ∧ BestIs f wet x g (evsOf C s r) ∧
  Q (eORd (bestOf f wet x g (evsOf C s r))) st
def roadM (f wet : Int) (x g : T3) (evs : List Ev) : Option (List Nat) := if x = g then some [] else bestOf f wet x g evs
def F_road : FS := fun ds st Q => ∃ (L C : Nat) (s : Stand) (r : List Deed) (f wet : Int) (x g : T3), ds = [eSh L C, eSt s, eR r, eDrop f x wet, e3 g] ∧ OkAll C s r ∧ InBox (evsOf C s r) ∧ x ∈ box 8 2 6 ∧ BestIs f wet x g (evsOf C s r) ∧
  Q (eORd (roadM f wet x g (evsOf C s r))) st
abbrev Kn := Int × List Pr
def eKn (v : Kn) : D := .tup [.int v.1, ePrs v.2]
def knownM (evs : List Ev) : List (Int × Kn) := evs.foldl (fun m ev => aput m (ev.1 : Int) (ev.2.1, ev.2.2)) []
def walkM (kn : List (Int × Kn)) (f wet : Int) : List Int → T3 → Option T3
  | [], h => some h
  | a :: r, h => match aget kn a with
    | none => none
    | some v => if f ≤ v.1 ∧ v.1 < f + wet then (match partM v.2 h with
      | some h' => walkM kn f wet r h'
      | none => none) else none
def isRoadM (n : Nat) (f wet : Int) (x g : T3) (evs : List Ev) (th : List Int) : Bool :=
  (th.all fun a => decide (0 ≤ a) && decide (a ≤ (n : Int) - 1)) && riseB th && match walkM (knownM evs) f wet th x with
    | some h => decide (h = g)
    | none => false
def F_is_road : FS := fun ds st Q => ∃ (L C : Nat) (s : Stand) (r : List Deed) (f wet : Int) (x g : T3) (th : List Int), ds = [eSh L C, eSt s, eR r, eDrop f x wet, e3 g, .tup (th.map .int)] ∧ OkAll C s r ∧
  Q (.bl (isRoadM r.length f wet x g (evsOf C s r) th)) st
def wetM (t : Int) (x g : T3) (tk : Int) (evs : List Ev) : Option Int := if x = g then some 1 else (aget (roadsM t (tk + 1) x evs) g).map fun v => v.1 - t + 1
def F_least_wet : FS := fun ds st Q => ∃ (L C : Nat) (s : Stand) (r : List Deed) (t : Int) (x g : T3), ds = [eSh L C, eSt s, eR r, .int t, e3 x, e3 g] ∧ OkAll C s r ∧ InBox (evsOf C s r) ∧ x ∈ box 8 2 6 ∧
  Q (eOI (wetM t x g (ticksM r) (evsOf C s r))) st
def lastPut (t : Int) (m : List (T3 × Option Int)) (h th : T3) : List (T3 × Option Int) := if (aget m th).isSome = true ∧ aget m h = none then aput m h (some t) else m
def lastStep (m : List (T3 × Option Int)) (ev : Ev) : List (T3 × Option Int) := ev.2.2.foldl (fun m p => lastPut ev.2.1 (lastPut ev.2.1 m p.1 p.2) p.2 p.1) m
def lastM (g : T3) (evs : List Ev) : List (T3 × Option Int) := evs.reverse.foldl lastStep [(g, none)]
def lastOf (x g : T3) (tk : Int) (evs : List Ev) : Option Int := if x = g then some tk else (aget (lastM g evs) x).getD none
def F_last_tick : FS := fun ds st Q => ∃ (L C : Nat) (s : Stand) (r : List Deed) (x g : T3), ds = [eSh L C, eSt s, eR r, e3 x, e3 g] ∧ OkAll C s r ∧ InBox (evsOf C s r) ∧ g ∈ box 8 2 6 ∧
  Q (eOI (lastOf x g (ticksM r) (evsOf C s r))) st
/-! ### the law's own defs: what is drawn is any -/
def tapeC (ns : List Int) (k c : Int) : Cell := .lst [.lst (ns.map .int), .int k, .int c]
def F_law_draw : FS := fun ds st Q => ∃ (j : Nat) (ns : List Int) (k c m : Int), ds = [.ptr j, .int m] ∧ st[j]? = some (tapeC ns k c) ∧ 0 < m ∧ m < 1000000 ∧ ∀ r k' c' : Int, 0 ≤ r → r < m → Q (.int r) (st.set j (tapeC ns k' c'))
def F_law_any_order : FS := fun ds st Q => ∃ (j : Nat) (ns : List Int) (k c : Int) (n : Nat), ds = [.ptr j, .int (n : Int)] ∧ st[j]? = some (tapeC ns k c) ∧ n < 1000 ∧ ∀ (l : List Nat) (k' c' : Int), l.Perm (List.range n) → Q (.tup (l.map fun (i : Nat) => D.int (i : Int))) (st.set j (tapeC ns k' c'))
def F_law_shape : FS := fun ds st Q => ∃ (j : Nat) (ns : List Int) (k c : Int) (n m : Nat), ds = [.ptr j, .int (n : Int), .int (m : Int)] ∧ st[j]? = some (tapeC ns k c) ∧ 0 < n ∧ n < 1000 ∧ 0 < m ∧ m < 1000 ∧
  ∀ (L C : Nat) (k' c' : Int), 1 ≤ L → L ≤ n → 1 ≤ C → C ≤ m → Q (eSh L C) (st.set j (tapeC ns k' c'))
def F_law_spot : FS := fun ds st Q => ∃ (j : Nat) (ns : List Int) (k c : Int) (L C : Nat), ds = [.ptr j, eSh L C] ∧ st[j]? = some (tapeC ns k c) ∧ 0 < L ∧ L < 1000 ∧ 0 < C ∧ C < 1000 ∧ ∀ (x : T3) (k' c' : Int), x ∈ box L 2 C → Q (e3 x) (st.set j (tapeC ns k' c'))
structure OkSt (L : Nat) (s : Stand) : Prop where
  lv : (s.map (·.1)).Perm ((List.range L).map fun (i : Nat) => (i : Int))
  ov : ∀ p ∈ s, p.2.1 = 0 ∨ p.2.1 = 1
  ab : ∀ p ∈ s, p.2.2 = 0 ∨ p.2.2 = 1
def F_law_stand : FS := fun ds st Q => ∃ (j : Nat) (ns : List Int) (k c : Int) (L C : Nat), ds = [.ptr j, eSh L C] ∧ st[j]? = some (tapeC ns k c) ∧ L < 1000 ∧ ∀ (s : Stand) (k' c' : Int), OkSt L s → Q (eSt s) (st.set j (tapeC ns k' c'))
structure OkD (L : Nat) (d : Deed) : Prop where
  ok : okDeed L d
  lo : 1 ≤ takesM d
  hi : takesM d ≤ 9
def F_law_a_deed : FS := fun ds st Q => ∃ (j : Nat) (ns : List Int) (k c : Int) (L C : Nat), ds = [.ptr j, eSh L C] ∧ st[j]? = some (tapeC ns k c) ∧ 0 < L ∧ L < 1000 ∧ ∀ (d : Deed) (k' c' : Int), OkD L d → Q (eD d) (st.set j (tapeC ns k' c'))
def F_law_row : FS := fun ds st Q => ∃ (j : Nat) (ns : List Int) (k c : Int) (L C n : Nat), ds = [.ptr j, eSh L C, .int (n : Int)] ∧ st[j]? = some (tapeC ns k c) ∧ 0 < L ∧ L < 1000 ∧ n < 1000 ∧ ∀ (r : List Deed) (k' c' : Int), (∀ d ∈ r, OkD L d) → r.length ≤ n → Q (eR r) (st.set j (tapeC ns k' c'))
end BB
namespace BB
open PySem PySem.Spec PyProof.Rows L2
section
variable {st : List Cell} {Z : D → Prop} {R : DS → Prop} {ρ : DS}
theorem vw_sh (L C : Nat) : vw st (eSh L C) = eSh L C := rfl
theorem vw_st (s : Stand) : vw st (eSt s) = .tup (s.map e3) := rfl
theorem vw_eD (d : Deed) : vw st (eD d) = eD d := rfl
theorem ap_ixSh (L C : Nat) (i : Int) : wIxA (eSh L C) (.int i) st Z = ∃ d, atI [.int (L : Int), .int (C : Int)] i = some d ∧ Z d := ap_ixT _ _
theorem ap_ixD (d : Deed) (i : Int) : wIxA (eD d) (.int i) st Z = ∃ x, atI [.str d.word, .int (d.num : Int)] i = some x ∧ Z x := ap_ixT _ _
theorem ap_ixSt (s : Stand) (i : Int) : wIxA (eSt s) (.int i) st Z = ∃ x, atI (s.map e3) i = some x ∧ Z x := ap_ixT _ _
theorem sh_t3 (p : T3) : sh 64 (e3 p) := sh_e3 p 63
theorem ap_gtupD (r : DGs) (d : Deed) : gTupD 2 r (eD d) ρ R = r [.str d.word, .int (d.num : Int)] ρ R := (ap_gtup 2 r _).trans (propext ⟨fun h => h.2, fun h => ⟨rfl, h⟩⟩)
theorem at_st {s : Stand} {g : Nat} {p : T3} (h : s[g]? = some p) : atI (s.map e3) (g : Int) = some (e3 p) := by
  obtain ⟨hg, e⟩ := List.getElem?_eq_some_iff.mp h
  rw [atI_map, atI_nat _ _ hg, e]; rfl
theorem ex_st {s : Stand} {g : Nat} {p : T3} (h : s[g]? = some p) : (∃ x, atI (s.map e3) (g : Int) = some x ∧ Z x) = Z (e3 p) := by
  rw [at_st h]; exact propext ⟨fun ⟨_, e, h⟩ => by cases e; exact h, fun h => ⟨_, rfl, h⟩⟩
theorem bel_sh (n L C : Nat) : bel n (eSh L C) := (bel_tup _ _).mpr fun d hd => by
  simp only [List.mem_cons, List.not_mem_nil, or_false] at hd
  rcases hd with rfl | rfl <;> exact bel_int _ _
theorem bel_st (n : Nat) (s : Stand) : bel n (eSt s) := bel_map fun p _ => bel_e3 n p
theorem bel_eD (n : Nat) (d : Deed) : bel n (eD d) := (bel_tup _ _).mpr fun d hd => by
  simp only [List.mem_cons, List.not_mem_nil, or_false] at hd
  rcases hd with rfl | rfl
  · exact bel_str _ _
  · exact bel_int _ _
theorem bel_eR (n : Nat) (r : List Deed) : bel n (eR r) := bel_mapL fun p _ => bel_eD n p
theorem bel_ePr (n : Nat) (x : Pr) : bel n (ePr x) := (bel_tup _ _).mpr fun d hd => by
  simp only [List.mem_cons, List.not_mem_nil, or_false] at hd
  rcases hd with rfl | rfl <;> exact bel_e3 _ _
theorem bel_ePrs (n : Nat) (x : List Pr) : bel n (ePrs x) := bel_mapL fun p _ => bel_ePr n p
theorem bel_eEv (n : Nat) (x : Ev) : bel n (eEv x) := (bel_tup _ _).mpr fun d hd => by
  simp only [List.mem_cons, List.not_mem_nil, or_false] at hd
  rcases hd with rfl | rfl | rfl
  · exact bel_int _ _
  · exact bel_int _ _
  · exact bel_ePrs _ _
theorem bel_eEvs (n : Nat) (x : List Ev) : bel n (eEvs x) := bel_mapL fun p _ => bel_eEv n p
theorem bel_eO (n : Nat) (o : Option T3) : bel n (eO o) := by
  cases o
  · exact bel_non _
  · exact bel_e3 _ _
theorem bel_eRd (n : Nat) (r : List Nat) : bel n (eRd r) := bel_map fun p _ => bel_int n p
theorem bel_eORd (n : Nat) (o : Option (List Nat)) : bel n (eORd o) := by
  cases o
  · exact bel_non _
  · exact bel_eRd _ _
theorem bel_eRv (n : Nat) (v : Rv) : bel n (eRv v) := (bel_tup _ _).mpr fun d hd => by
  simp only [List.mem_cons, List.not_mem_nil, or_false] at hd
  rcases hd with rfl | rfl | rfl
  · exact bel_int _ _
  · exact bel_int _ _
  · exact bel_eRd _ _
theorem bel_eOI (n : Nat) (o : Option Int) : bel n (eOI o) := by
  cases o
  · exact bel_non _
  · exact bel_int _ _
end
end BB
set_option maxRecDepth 100000
/-! The data layer, 13: sorted(dict), list(dict), new lists as cells, max of a tuple, negative constants, isinstance with a tuple of types. -/
namespace BB
open PySem PySem.Spec PyProof.Rows L2
section
variable {X : Cx}
/-! ### negative constants -/
theorem de_negI {i : Int} {k : Nat} {p pos : Pos} : DEx X (.UnaryOp .USub (.Constant (.int i) k p) pos) (dC (.int (-i))) :=
  pe_con' (pe_un un_neg pe_int) fun σ H Q ⟨as, ρ, P, R, p, k⟩ => ⟨i, rfl, k _ ρ as _ H p R (.int _) (.refl _ _)⟩
/-! ### the keys of a dict -/
theorem Inv_raw {pins : List (Addr × Obj)} {σ : L2.St} {H : Hp} {s : Shared} {as : List Addr} {a : Addr} {xs : Ents} {ks vs : List D} (I : L2.Inv X pins σ H s) (h : Rd H a (dHO (gd X) a xs)) (r : RepEnts (gd X) H as ks vs xs) :
    ∃ es ep, s.heap.DictRaw a es ep ∧ es.toList = xs.map (entryOfKey (nestedKind X.prog X.w)) := by
  obtain ⟨ob, es, ep, h1, h2, h3, h4, h5, h6⟩ := Inv_dict I h r
  exact ⟨es, ep, ⟨ob, h1, h2, h3⟩, h4⟩
theorem keys_acc {P : Program} {w : World} {es : Array DictEntry} {xs : Ents} (e : es.toList = xs.map (entryOfKey (nestedKind P w))) {acc : Array Value} (h : ItemsOf (fun i v => ∃ hi : i < es.size, v = es[i].key) acc es.size) : acc.toList = xs.map fun x => .ref x.2.1 := by
  have hl : es.size = xs.length := by rw [← Array.length_toList, e, List.length_map]
  apply List.ext_getElem?
  intro i
  rw [Array.getElem?_toList, List.getElem?_map]
  cases q : xs[i]? with
  | none =>
    have : xs.length ≤ i := List.getElem?_eq_none_iff.mp q
    rw [Array.getElem?_eq_none (by rw [h.1]; omega)]; rfl
  | some x =>
    obtain ⟨n, b, u⟩ := x
    have hi : i < xs.length := (List.getElem?_eq_some_iff.mp q).1
    have ha : i < acc.size := by rw [h.1]; omega
    rw [Array.getElem?_eq_getElem ha]
    obtain ⟨hi', ev⟩ := h.2 i _ (Array.getElem?_eq_getElem ha)
    obtain ⟨_, ek, _⟩ := ents_at e q
    rw [ev, ek]; rfl
theorem ents_keys {G : Gd} {H : Hp} {as : List Addr} : ∀ {ks vs : List D} {xs : Ents}, RepEnts G H as ks vs xs → RepAll G H as (xs.map fun x => V.ref x.2.1) ks
  | _, _, _, .nil => .nil
  | _, _, _, .cons h1 h2 h3 h4 h5 r => .cons h3 (ents_keys r)
theorem vals_refs : ∀ xs : Ents, Vals (xs.map fun x => V.ref x.2.1) (xs.map fun x => Value.ref x.2.1)
  | [] => .nil
  | x :: xs => .cons rfl (vals_refs xs)
/-- sorted(d): the keys in order, a new list -/
theorem sorted_dictK {pins : List (Addr × Obj)} {σ : L2.St} {H : Hp} {s : Shared} {as : List Addr} {Q : VK} {o : Addr} {xs : Ents} {ks vs : List D} (hu : X.A.units + 64 < cLine) (hc : X.calm = true) (I : L2.Inv X pins σ H s) (hoS : (o == sysModules) = false) (hd : Rd H o (dHO (gd X) o xs)) (ra : RepEnts (gd X) H as ks vs xs) (hsz : xs.length ≤ sizeLine) (ok : SortOk ks)
    (k : ∀ p ys, H p = none → RepAll (gd X) H as ys (sortD ks) → Q (.ref p) (upd H p (.lst ys))) : wpAny (model X.prog X.w) X.A (call (.builtin "sorted") [.ref o]) (EP X pins σ Q) X.xe s := by
  obtain ⟨es, ep, hraw, ee⟩ := Inv_raw I hd ra
  obtain ⟨⟨c1, c2⟩, al, so⟩ := ok
  rw [py] at c1 c2
  have hes : es.size = xs.length := by rw [← Array.length_toList, ee, List.length_map]
  refine Calls.call_function_entry kind_sorted plain_sorted entry_sorted (args_sorted1 _) ?_
  unfold Builtin.«sorted»
  refine wpAny_bind (m := checkCount "sorted" 1 1 _) (wpAny_pure ?_)
  refine wpAny_bind (PySem.W.kdu_collect (A := X.A.in1) (PySem.KdlSrc.rawDict (prog := X.prog) (w := X.w) hoS) (I.ok.hd hc) hraw (by rw [hes]; exact hsz) fun h' tk acc hk hacc => ?_)
  have hkeys := keys_acc ee hacc
  have hl : acc.toList.length = xs.length := by rw [hkeys, List.length_map]
  refine wpAny_bind (wpAny_newList ?_ (by rw [hl]; exact hsz))
  have hra := ents_keys ra
  have hkl : ks.length = xs.length := by rw [← hra.length, List.length_map]
  have hcl : PyData.canLayAll0 (pys ks) = true := by simpa [PyData.canLay0] using c1
  have er0 := each_reads I (vals_refs xs) hra hcl
  have kk : ∀ b ob, s.heap.get? b = some ob → (h'.push { cls := .type "list", data := .seq acc.toList.toArray }).get? b = some ob := fun b ob e => Heap.get?_push_of_some _ (hk b ob e)
  have er : PySem.W.EachIs (fun u d => ∃ as, Reads (h'.push { cls := .type "list", data := .seq acc.toList.toArray }) u (py d) as ∧ h'.objs.size ∉ as) acc.toList ks := by
    have z := er0.mono (R' := fun u d => ∃ as, Reads (h'.push { cls := .type "list", data := .seq acc.toList.toArray }) u (py d) as ∧ h'.objs.size ∉ as) fun u d ⟨as, r⟩ => ⟨as, PyProof.Rows.Reads.keeps kk r, fun hm => by
      obtain ⟨ob, e⟩ := PyProof.On.reads_mem_get r _ hm
      exact absurd (Heap.lt_size (hk _ _ e)) (Nat.lt_irrefl _)⟩
    rw [← hkeys] at z
    exact z
  have ho : (h'.push { cls := .type "list", data := .seq acc.toList.toArray }).get? h'.objs.size = some (seqObj "list" acc.toList.toArray 0) := Heap.get?_push_size _ rfl
  have eR : PySem.W.EachIs (fun u d => ∃ x, RelV x u ∧ Rep (gd X) H as x d) acc.toList ks := by
    rw [hkeys]; exact each_of (vals_refs xs) hra
  have hsort : wpAny (model X.prog X.w) X.A.in1 (call (.builtin "list.sort") [.ref h'.objs.size]) (fun _ s' => EP X pins σ Q (.ref h'.objs.size) s') X.xe { s with heap := h'.push { cls := .type "list", data := .seq acc.toList.toArray }, toks := tk } := by
    refine PySem.W.list_sort_data (s := { s with heap := h'.push { cls := .type "list", data := .seq acc.toList.toArray }, toks := tk }) ho eR er al so (by rw [hkl]; exact hsz) (fun d hd' => ?_) fun out hlo he => ?_
    · have : (py d).depth ≤ 60 := by
        simp only [PyData.depth] at c2
        exact (depthAll_iff 60 (pys ks)).mp (by omega) (py d) (by rw [pys_map]; exact List.mem_map_of_mem hd')
      show X.A.units + 1 + 1 + (py d).depth < cLine
      omega
    · obtain ⟨ys, v1, v2⟩ := of_each he
      obtain ⟨ep', he'⟩ := PyProof.Rows.sortedHeap_at (out := List.toArray out) ho
      have hyl : ys.length ≤ sizeLine := by rw [v1.length, hlo, hkl]; exact hsz
      have I2 : L2.Inv X pins σ H { s with heap := h', toks := tk } := I.kept hk
      have hf : H h'.objs.size = none := I2.hok.fresh (Nat.le_refl _)
      refine ⟨.ref _, upd H h'.objs.size (.lst ys), I2.laid (t' := tk) (fun b ob e => ?_) (Nat.le_refl _) ⟨hyl, out, ep', v1, he'⟩, rfl, k _ _ hf v2⟩
      have hlt : b < h'.objs.size := Heap.lt_size e
      rw [PyProof.Rows.sortedHeap_old (Nat.ne_of_lt hlt) (by rw [PyProof.Rows.size_push']; exact Nat.lt_succ_of_lt hlt)]
      exact Heap.get?_push_of_some _ e
  refine wpAny_bind (wpAny_holding (wpAny_mono hsort (fun _ s' x => ?_) fun _ _ e => e))
  exact wpAny_pure ⟨_, rfl, x⟩
/-- sorted(x): a list, a dict (its keys): frozen -/
def wSrtA : WPn := fun ds st Q => ∃ x, ds = [x] ∧ ((∃ es, vw st x = .lst es ∧ SortOk es ∧ Q (.lst (sortD es))) ∨ ∃ ks vs, dvT st x = some (ks, vs) ∧ SortOk ks ∧ Q (.lst (sortD ks)))
theorem rb_sortedA (hu : X.A.units + 64 < cLine) (hc : X.calm = true) : CallR X (.builtin "sorted") (liftN (gd X) wSrtA) := by
  intro pins s σ H xs us Q I rv h
  obtain ⟨as, st, ds, P, R, r, ⟨x, ed, w⟩, k⟩ := h
  subst ed
  rcases w with ⟨es, e, ok, w⟩ | ⟨ks, vs, e, ok, w⟩
  · exact rb_sorted hu pins s σ H xs us Q I rv ⟨as, st, _, P, R, r, ⟨x, es, rfl, e, ok, w⟩, k⟩
  · cases r with
    | cons r rr =>
      cases rr
      obtain ⟨a, es, rfl, hd, hm, hz, ra⟩ := rep_dct R r e
      rw [Vals.ref1 rv]
      refine thn (sorted_dictK (Q := frzQ Q) hu hc I hm hd ra hz ok fun p ys hp rr => ?_) fun _ _ z => EP.frz z
      exact frzQ_new (P := P) p hp rr w k
/-! ### a new list that is a cell -/
abbrev WPl := List D → List Cell → (List D → Prop) → Prop
def liftNew (G : Gd) (g : WPl) : List V → Hp → VK → Prop := fun xs H Q => ∃ as st ds P, RepSt G H as st ∧ RepAll G H as xs ds ∧ g ds st P ∧ ∀ es ys p, P es → RepAll G H as ys es → H p = none → Q (.ref p) (upd H p (.lst ys))
def dBtN (g : WPl) (a : DA) : DE := fun ρ Q => a ρ fun ds ρ1 => g ds ρ1.st fun es => Q (.ptr ρ1.st.length) ⟨ρ1.sl, ρ1.st ++ [.lst es]⟩
theorem lift_btN {G : Gd} {g : WPl} {da : DA} {σ : L2.St} {H : Hp} {Q : VK} (h : liftE G (dBtN g da) σ H Q) : tCB (liftNew G g) (liftA G da) σ H Q := by
  obtain ⟨as, ρ, P, R, w, k⟩ := h
  refine ⟨as, ρ, _, R, w, fun ds ρ1 as1 vs H1 w1 R1 r1 f1 => ?_⟩
  refine ⟨as1, ρ1.st, ds, _, R1.st, r1, w1, fun es ys p pz rr hp => ?_⟩
  have hl : (as1 ++ [p])[ρ1.st.length]? = some p := by rw [← R1.st.len, List.getElem?_append_right (Nat.le_refl _)]; simp
  exact k _ _ (as1 ++ [p]) _ _ pz (R1.alloc (c := .lst es) hp ⟨ys, upd_same, rr.frm (.alloc as1 hp)⟩) (.ptr hl) (f1.trans (.alloc as1 hp))
section
variable {x : Str} {p pos : Pos} {e : Expr} {es : List Expr} {da : DA} {id T : String} {g : WPl}
theorem de_btN (hc : CallR X (.builtin id) (liftNew (gd X) g)) (hg : Gl X x) (hm : X.mg x = none) (hv : bootBuiltins x = some (.builtin id)) (ha : DAx X (e :: es) da) (hn : x ≠ "__name__" := by decide) (hdb : (x == ("__debug__" : Str)) = false := by decide)
    (he : starEach (e :: es) X.env = (false, eval e X.env) :: starEach es X.env := by rfl) (hpl : (backTo pos (starEach es X.env)).any (·.1) = false := by rfl) : DEx X (.Call (.Name x p) (e :: es) [] pos) (dBtN g da) :=
  pe_con' (pe_callB hc hg hm hv ha hn hdb he hpl) fun _ _ _ q => lift_btN q
theorem de_tyN (hc : CallR X (.type T) (liftNew (gd X) g)) (hg : Gl X x) (hm : X.mg x = none) (hv : bootBuiltins x = some (.type T)) (ha : DAx X (e :: es) da) (hn : x ≠ "__name__" := by decide) (hdb : (x == ("__debug__" : Str)) = false := by decide)
    (he : starEach (e :: es) X.env = (false, eval e X.env) :: starEach es X.env := by rfl) (hpl : (backTo pos (starEach es X.env)).any (·.1) = false := by rfl) : DEx X (.Call (.Name x p) (e :: es) [] pos) (dBtN g da) :=
  pe_con' (pe_callTy hc hg hm hv ha hn hdb he hpl) fun _ _ _ q => lift_btN q
end
def wLstN : WPl := fun ds st P => ∃ x, ds = [x] ∧ match vw st x with
  | .lst es => P es
  | .tup es => P es
  | _ => False
theorem rb_listN : CallR X (.type "list") (liftNew (gd X) wLstN) := callR_con call_list_of fun xs H Q ⟨as, st, ds, P, R, r, ⟨x, ed, w⟩, k⟩ => by
  subst ed
  cases r with
  | cons r rr =>
    cases rr
    split at w
    · rename_i es e
      obtain ⟨a, ys, rfl, h, ra⟩ := rep_list R r e
      exact ⟨a, ys, rfl, .inl h, fun l hl => k _ _ _ w ra hl⟩
    · rename_i es e
      have e := vw_tup e
      subst e
      obtain ⟨a, ys, rfl, h, ra⟩ := rep_tup r
      exact ⟨a, ys, rfl, .inr h, fun l hl => k _ _ _ w ra hl⟩
    · exact w.elim
def wSrtN : WPl := fun ds st P => ∃ x es, ds = [x] ∧ vw st x = .lst es ∧ SortOk es ∧ P (sortD es)
theorem rb_sortedN (hu : X.A.units + 64 < cLine) : CallR X (.builtin "sorted") (liftNew (gd X) wSrtN) := by
  intro pins s σ H xs us Q I rv h
  obtain ⟨as, st, ds, P, R, r, ⟨x, es, ed, e, ok, w⟩, k⟩ := h
  subst ed
  cases r with
  | cons r rr =>
    cases rr
    obtain ⟨a, zs, rfl, h, ra⟩ := rep_list R r e
    rw [Vals.ref1 rv]
    obtain ⟨its, rv2, hl, hz⟩ := I.list h
    obtain ⟨⟨c1, c2⟩, al, so⟩ := ok
    rw [py] at c1 c2
    have er : PySem.W.EachIs (fun u d => ∃ as, Reads s.heap u (py d) as) its es := by
      have hc : PyData.canLayAll0 (pys es) = true := by simpa [PyData.canLay0] using c1
      exact each_reads I rv2 ra hc
    have hlen : es.length ≤ sizeLine := by rw [← ra.length]; exact hz
    refine PySem.W.sorted_data hl.isList (each_of rv2 ra) er al so hlen (fun d hd => ?_) fun out ho he => ?_
    · have : (py d).depth ≤ 60 := by
        simp only [PyData.depth] at c2
        exact (depthAll_iff 60 (pys es)).mp (by omega) (py d) (by rw [pys_map]; exact List.mem_map_of_mem hd)
      omega
    · obtain ⟨ys, v1, v2⟩ := of_each he
      obtain ⟨ep, he'⟩ := PyProof.Rows.sortedAll_at s.heap its out.toArray
      have hyl : ys.length ≤ sizeLine := by rw [v1.length, ho]; exact hlen
      have hf : H (s.heap.objs.size + 1) = none := I.hok.fresh (Nat.le_succ _)
      exact ⟨.ref _, upd H (s.heap.objs.size + 1) (.lst ys), I.laid (t' := s.toks) (fun _ _ => PyProof.Rows.sortedAll_old) (Nat.le_succ _) ⟨hyl, out, ep, v1, he'⟩, rfl, k _ _ _ w v2 hf⟩
/-! ### max of a tuple of ints -/
theorem max_alike : ∀ ns : List Int, PySem.W.AllAlike ((ns.map D.int).map py) := fun ns a ha b hb => by
  obtain ⟨x, hx, rfl⟩ := List.mem_map.mp ha
  obtain ⟨y, hy, rfl⟩ := List.mem_map.mp hb
  obtain ⟨i, _, rfl⟩ := List.mem_map.mp hx
  obtain ⟨j, _, rfl⟩ := List.mem_map.mp hy
  rfl
/-! ### isinstance(e, (T1, T2)) -/
def isiA (Ts : List String) (x : D) : Option Bool := match Ts with
  | [] => some false
  | T :: Ts => match isiD T x with
    | some true => some true
    | some false => isiA Ts x
    | none => none
end
end BB
namespace BB
open PySem PySem.Spec PyProof.Rows L2
section
variable {X : Cx}
/-- max(t), t a tuple of ints -/
def wMaxT : WPn := fun ds st Q => ∃ (n : Int) (ns : List Int), ds = [.tup ((n :: ns).map .int)] ∧ Q (.int (ns.foldl max n))
theorem depth_ints : ∀ ns : List Int, PyData.depthAll (pys (ns.map .int)) = 0
  | [] => rfl
  | n :: ns => by
    rw [List.map_cons, pys, PyData.depthAll, depth_ints ns, py]; rfl
theorem reads_ints {h : Heap} : ∀ {us : List Value} (ns : List Int), Vals (ns.map V.int) us → ReadsAll h us (ns.map PyData.int) []
  | [], [], .nil => .nil
  | u :: us, n :: ns, .cons r t => by
    obtain ⟨tk, rfl⟩ : ∃ t, u = Value.int n t := r
    exact .cons (as := []) (bs := []) (.int n tk) (reads_ints ns t)
theorem repAll_ints {G : Gd} {H : Hp} {as : List Addr} : ∀ {xs : List V} (ns : List Int), RepAll G H as xs (ns.map .int) → xs = ns.map V.int
  | [], [], .nil => rfl
  | x :: xs, n :: ns, .cons r t => by rw [rep_int r, repAll_ints ns t]; rfl
theorem alikeAll_ints (ns : List Int) : PySem.W.AlikeAll (ns.map PyData.int) := by
  refine ⟨fun a ha b hb => ?_, fun a ha => ?_⟩
  · obtain ⟨i, _, rfl⟩ := List.mem_map.mp ha
    obtain ⟨j, _, rfl⟩ := List.mem_map.mp hb
    rfl
  · obtain ⟨i, _, rfl⟩ := List.mem_map.mp ha
    intro z; cases z
theorem rb_maxT (hu : X.A.units + 64 < cLine) (hc : X.calm = true) : CallR X (.builtin "max") (liftN (gd X) wMaxT) := by
  intro pins s σ H xs us Q I rv h
  obtain ⟨as, st, ds, P, R, r, ⟨n, ns, ed, w⟩, k⟩ := h
  subst ed
  cases r with
  | cons r rr =>
    cases rr
    obtain ⟨a, ys, rfl, h, ra⟩ := rep_tup r
    rw [Vals.ref1 rv]
    have ey := repAll_ints _ ra
    subst ey
    obtain ⟨its, rv2, hl, hz⟩ := I.tuple h
    have hr := reads_ints (h := s.heap) (n :: ns) rv2
    refine PySem.W.max_tuple_data (x := .int n) (xs := ns.map PyData.int) (I.ok.hd hc) hl (by rw [List.toList_toArray]; exact hr) (alikeAll_ints (n :: ns)) ?_ fun i v h' tk bs hv hrd hk => ?_
    · have : PyData.depthAll (.int n :: ns.map PyData.int) = 0 := by have := depth_ints (n :: ns); rw [pys_map, List.map_map] at this; exact this
      omega
    · rw [PySem.W.maxD_ints] at hrd
      obtain ⟨t, rfl, _⟩ := PyProof.Rows.reads_int_inv hrd
      exact ⟨.int _, H, I.kept hk, ⟨t, rfl⟩, k _ _ H w (Same.refl H) (.int _)⟩
end
end BB
namespace BB
open PySem PySem.Spec PyProof.Rows L2
section
variable {X : Cx}
def dIsiA (Ts : List String) (a : DE) : DE := fun ρ Q => a ρ fun x ρ' => ∃ b, isiA Ts x = some b ∧ Q (.bl b) ρ'
theorem tyx_one {G : Gd} {H : Hp} {as : List Addr} {v : V} {d : D} {T : String} {b : Bool} (r : Rep G H as v d) (h : isiD T d = some b) : ∃ T0, TyX G.K H v (.type T0) ∧ ∀ T, isiD T d = kitB T0 T := by
  cases r with
  | non => exact ⟨_, .base .non, fun _ => rfl⟩
  | bl x => exact ⟨_, .base (.bl x), fun _ => rfl⟩
  | int x => exact ⟨_, .base (.int x), fun _ => rfl⟩
  | str x => exact ⟨_, .base (.str x), fun _ => rfl⟩
  | tup hq _ =>
    rcases hq with (hq | ⟨o, hq⟩) | ⟨o, its, n, hk, hc, _⟩
    · exact ⟨_, .base (.tup hq), fun _ => rfl⟩
    · exact ⟨_, .fTuple hq, fun _ => rfl⟩
    · exact ⟨_, .kTuple hk hc, fun _ => rfl⟩
  | lst hq _ => obtain ⟨o, hq⟩ := hq; exact ⟨_, .base (.frz hq), fun _ => rfl⟩
  | _ => cases h
theorem isiA_kit {K : PySem.W.Frag} {d : D} {T0 : String} (h0 : ∀ T, isiD T d = kitB T0 T) : ∀ (Ts : List String) (b : Bool), isiA Ts d = some b → PySem.W.kitAny K (.type T0) (Ts.map .type) = some b
  | [], b, h => h
  | T :: Ts, b, h => by
    unfold isiA at h
    rw [h0] at h
    cases q : kitB T0 T with
    | none => rw [q] at h; cases h
    | some c =>
      rw [q] at h
      cases c with
      | true =>
        cases h
        exact kitAny_cons (kit_ty q) (fun z => by cases z) fun _ => rfl
      | false => exact kitAny_cons (kit_ty q) (fun _ => isiA_kit h0 Ts b h) fun z => by cases z
theorem isiA_head {T : String} {Ts : List String} {d : D} {b : Bool} (h : isiA (T :: Ts) d = some b) : ∃ c, isiD T d = some c := by
  unfold isiA at h
  cases q : isiD T d with
  | none => rw [q] at h; cases h
  | some c => exact ⟨c, rfl⟩
/-- isinstance(e, (T1, T2)) -/
theorem de_isi2 {x y z T U : String} {p q q2 pos tpos : Pos} {kk : Nat} {e : Expr} {d : DE} (hg : Gl X x) (hm : X.mg x = none) (hv : bootBuiltins x = some (.builtin "isinstance")) (hgT : Gl X y) (hmT : X.mg y = none) (hvT : bootBuiltins y = some (.type T)) (hgU : Gl X z) (hmU : X.mg z = none) (hvU : bootBuiltins z = some (.type U)) (he : DEx X e d)
    (hn : (x : Str) ≠ "__name__" := by decide) (hdb : ((x : Str) == ("__debug__" : Str)) = false := by decide) (hnT : (y : Str) ≠ "__name__" := by decide) (hdT : ((y : Str) == ("__debug__" : Str)) = false := by decide) (hnU : (z : Str) ≠ "__name__" := by decide) (hdU : ((z : Str) == ("__debug__" : Str)) = false := by decide)
    (hse : starEach [e, .Tuple [.Name y q, .Name z q2] kk tpos] X.env = (false, eval e X.env) :: starEach [.Tuple [.Name y q, .Name z q2] kk tpos] X.env := by rfl) (hse2 : starEach [Expr.Tuple [.Name y q, .Name z q2] kk tpos] X.env = (false, eval (.Tuple [.Name y q, .Name z q2] kk tpos) X.env) :: starEach [] X.env := by rfl)
    (hs3 : starEach [Expr.Name y q, .Name z q2] X.env = (false, eval (.Name y q) X.env) :: starEach [.Name z q2] X.env := by rfl) (hs4 : starEach [Expr.Name z q2] X.env = (false, eval (.Name z q2) X.env) :: starEach [] X.env := by rfl)
    (hpl : (backTo pos (starEach [.Tuple [.Name y q, .Name z q2] kk tpos] X.env)).any (·.1) = false := by rfl) :
    DEx X (.Call (.Name x p) [e, .Tuple [.Name y q, .Name z q2] kk tpos] [] pos) (dIsiA [T, U] d) :=
  pe_con' (pe_callB call_isiT hg hm hv (pa_cons he (pa_cons (pe_tup (pa_cons (pe_bltn (v := .ty T) hgT hmT hvT rfl hnT hdT) (pa_cons (pe_bltn (v := .ty U) hgU hmU hvU rfl hnU hdU) pa_nil hs4) hs3)) pa_nil hse2) hse) hn hdb hse hpl) fun σ H Q ⟨as, ρ, P, R, w, k⟩ => ⟨as, ρ, _, R, w, fun x ρ1 as1 v1 H1 w1 R1 r1 f1 => by
    obtain ⟨b, hb, pq⟩ := w1
    obtain ⟨c, hc⟩ := isiA_head hb
    obtain ⟨T0, ty, h0⟩ := tyx_one r1 hc
    refine ⟨(show 2 ≤ sizeLine by decide), fun p hp => ?_⟩
    have s : Same H1 (upd H1 p (.tup [V.ty T, V.ty U])) := Same.upd hp
    obtain ⟨T1, ty1, h1⟩ := tyx_one (r1.frm (.same s)) hc
    exact ⟨v1, p, [.ty T, .ty U], .type T1, [.type T, .type U], b, rfl, upd_same, .cons (.ty T) (.cons (.ty U) .nil), ty1, isiA_kit h1 [T, U] b hb, k _ ρ1 as1 _ _ pq (R1.same s) (.bl _) (f1.trans (.same s))⟩⟩
end
end BB
namespace BB
open PySem PySem.Spec PyProof.Rows L2
section
variable {X : Cx}
/-- list(range(n)) -/
def dLstRg1 (a : DE) : DE := fun ρ Q => a ρ fun x ρ' => ∃ j : Nat, x = .int (j : Int) ∧ j ≤ 16777216 ∧ Q (.lst (intsD 0 j)) ρ'
theorem rep_rg {G : Gd} {H : Hp} {as : List Addr} (j : Nat) : RepAll G H as (rgV 0 (j : Int)) (intsD 0 j) := by
  unfold rgV intsD
  rw [Int.sub_zero, Int.toNat_natCast]
  generalize List.range j = l
  induction l with
  | nil => exact .nil
  | cons i l ih => exact .cons (.int _) ih
theorem de_listRg1 {p q pos pos2 : Pos} {e : Expr} {d : DE} (hg : Gl X "list") (hm : X.mg "list" = none) (hgr : Gl X "range") (hmr : X.mg "range" = none) (hc : X.calm = true) (he : DEx X e d)
    (na : starEach [Expr.Call (.Name "range" p) [e] [] pos2] X.env = (false, eval (.Call (.Name "range" p) [e] [] pos2) X.env) :: starEach [] X.env := by rfl) (nb : starEach [e] X.env = (false, eval e X.env) :: starEach [] X.env := by rfl) :
    DEx X (.Call (.Name "list" q) [.Call (.Name "range" p) [e] [] pos2] [] pos) (dLstRg1 d) :=
  pe_con' (pe_frz (pe_listRg hc hg hm (prg_1 hgr hmr he nb) na)) fun σ H Q ⟨as, ρ, P, R, w, k⟩ => ⟨as, ρ, _, R, w, fun x ρ1 as1 v1 H1 w1 R1 r1 f1 => by
    obtain ⟨j, rfl, hj, pq⟩ := w1
    refine ⟨(j : Int), rep_int r1, RgOk.of_le (by omega) (by omega) (by omega) (by omega), fun q hq => ?_⟩
    exact frzQ_new (P := fun z => z = .lst (intsD 0 j)) q hq (rep_rg j) rfl fun z v H2 ez s r => by
      subst ez
      exact k _ ρ1 as1 _ _ pq (R1.same s) r (f1.trans (.same s))⟩
end
end BB
set_option maxRecDepth 100000
/-! Tools, 3: dicts of cells and frozen dicts, by pairs. -/
namespace BB
open PySem PySem.Spec PyProof.Rows L2
section
variable {β : Type} {v : β → D} {st : List Cell} {Z : D → Prop} {P : List Cell → Prop} {m : List (T3 × β)}
theorem dv_cell {ks vs : List D} {j : Nat} (hj : st[j]? = some (.dct ks vs)) : dvT st (.ptr j) = some (ks, vs) := by simp [dvT, hj]
theorem in_dct {neg : Bool} {t : T3} (h : Z (.bl ((aget m t).isSome != neg))) : wIn neg (e3 t) (.dct (kD e3 m) (vD v m)) st Z :=
  .inl ⟨_, _, rfl, isKey_e3 t, by rw [look_kv kenc3]; simpa using h⟩
theorem in_cell {neg : Bool} {t : T3} {j : Nat} (hj : st[j]? = some (.dct (kD e3 m) (vD v m))) (h : Z (.bl ((aget m t).isSome != neg))) : wIn neg (e3 t) (.ptr j) st Z := by
  unfold wIn
  have e : vw st (.ptr j) = .ptr j := by simp [vw, hj]
  rw [e]
  exact .inl ⟨_, _, dv_cell hj, isKey_e3 t, by rw [look_kv kenc3]; simpa using h⟩
theorem get_dct {t : T3} {d : D} (h : Z (((aget m t).map v).getD d)) : wGet (.dct (kD e3 m) (vD v m)) (e3 t) d st Z :=
  .inl ⟨_, _, rfl, isKey_e3 t, by rw [look_kv kenc3]; exact h⟩
theorem get_cell {t : T3} {d : D} {j : Nat} (hj : st[j]? = some (.dct (kD e3 m) (vD v m))) (h : Z (((aget m t).map v).getD d)) : wGet (.ptr j) (e3 t) d st Z :=
  .inl ⟨_, _, dv_cell hj, isKey_e3 t, by rw [look_kv kenc3]; exact h⟩
theorem isDi_dct : isDi st (.dct (kD e3 m) (vD v m)) := .inl ⟨_, _, rfl⟩
theorem isDi_cell {j : Nat} {ks vs : List D} (hj : st[j]? = some (.dct ks vs)) : isDi st (.ptr j) := .inl ⟨_, _, dv_cell hj⟩
theorem ix_dct {t : T3} {y : β} (h : aget m t = some y) (hz : Z (v y)) : wIxA (.dct (kD e3 m) (vD v m)) (e3 t) st Z :=
  .inl ⟨_, _, v y, rfl, isKey_e3 t, by rw [look_kv kenc3, h]; rfl, hz⟩
theorem set_cell {t : T3} {y : β} (hl : m.length < sizeLine) (h : P (st ++ [.dct (kD e3 (aput m t y)) (vD v (aput m t y))])) : wSetA (.ptr st.length) (e3 t) (v y) (st ++ [.dct (kD e3 m) (vD v m)]) P := by
  have hj := app_get st (Cell.dct (kD e3 m) (vD v m))
  unfold wSetA
  simp only [hj]
  refine ⟨_, _, _, rfl, app_get _ _, isKey_e3 t, by simpa [kD] using hl, ?_⟩
  rw [put_kv kenc3, app_set]
  exact h
theorem one_kv (t : T3) (y : β) : (.dct [e3 t] [v y] : Cell) = .dct (kD e3 [(t, y)]) (vD v [(t, y)]) := rfl
/-- keys in the box, each once: few -/
theorem nodup_sub_len {α : Type} [DecidableEq α] : ∀ (l k : List α), l.Nodup → (∀ a ∈ l, a ∈ k) → l.length ≤ k.length
  | [], _, _, _ => Nat.zero_le _
  | a :: l, k, hn, hs => by
    rw [List.nodup_cons] at hn
    have h1 := nodup_sub_len l (k.erase a) hn.2 fun b hb => (List.mem_erase_of_ne (fun e => hn.1 (by rw [← e]; exact hb))).mpr (hs b (List.mem_cons_of_mem _ hb))
    have h2 := List.length_erase_of_mem (hs a List.mem_cons_self)
    have h3 : 0 < k.length := List.length_pos_of_mem (hs a List.mem_cons_self)
    rw [List.length_cons]; omega
structure Kd (m : List (T3 × β)) : Prop where
  nd : (m.map (·.1)).Nodup
  bx : ∀ k ∈ m.map (·.1), k ∈ box 8 2 6
theorem Kd.len (h : Kd m) : m.length < sizeLine := by
  have h1 := nodup_sub_len _ _ h.nd h.bx
  rw [List.length_map] at h1
  have h2 : (box 8 2 6).length = 96 := by decide +kernel
  have h3 : 96 < sizeLine := by decide
  omega
theorem Kd.put (h : Kd m) {t : T3} (ht : t ∈ box 8 2 6) (y : β) : Kd (aput m t y) := ⟨aput_nodup m t y h.nd, fun k hk => by
  rcases (aput_keys' m t y k).mp hk with z | z
  · exact h.bx k z
  · rw [z]; exact ht⟩
theorem Kd.one {t : T3} (ht : t ∈ box 8 2 6) (y : β) : Kd [(t, y)] := ⟨by simp, fun k hk => by simp at hk; rw [hk]; exact ht⟩
theorem Kd.apart (h : Kd m) (w : World) : apartD w (kD e3 m) := apart3 w m h.nd h.bx
theorem mem_aput {κ β : Type} [DecidableEq κ] {m : List (κ × β)} {x : κ} {y : β} {p : κ × β} (h : p ∈ aput m x y) : p ∈ m ∨ p = (x, y) := by
  induction m with
  | nil => exact .inr (by simpa [aput] using h)
  | cons q m ih =>
    obtain ⟨k, z⟩ := q
    unfold aput at h
    by_cases e : k = x
    · rw [if_pos e] at h
      rcases List.mem_cons.mp h with h | h
      · exact .inr (by rw [h, e])
      · exact .inl (List.mem_cons_of_mem _ h)
    · rw [if_neg e] at h
      rcases List.mem_cons.mp h with h | h
      · exact .inl (by rw [h]; exact List.mem_cons_self)
      · rcases ih h with h | h
        · exact .inl (List.mem_cons_of_mem _ h)
        · exact .inr h
end
end BB
set_option maxRecDepth 100000
/-! Marks: the program over plain data, what its defs promise. -/
namespace BB
open PySem PySem.Spec PyProof.Rows L2
abbrev Mk2 := Int × Int
def eMk (m : Mk2) : D := .tup [.int m.1, .int m.2]
abbrev Found := List (T3 × Mk2)
def eFo (m : Found) : Cell := .dct (kD e3 m) (vD eMk m)
def putM (m : Found) (x : T3) (s d : Int) : Found := match aget m x with
  | some o => aput m x (min o.1 s, max o.2 d)
  | none => aput m x (s, d)
def F_put_on : FS := fun ds st Q => ∃ (j : Nat) (m : Found) (x : T3) (s d : Int), ds = [.ptr j, e3 x, .int s, .int d] ∧ st[j]? = some (eFo m) ∧ m.length < sizeLine ∧ Q .non (st.set j (eFo (putM m x s d)))
/-- the drying ticks of those of two spots that are stained and wet at t -/
def wets (t : Int) (m : Found) (p : Pr) : List Int := (([p.1, p.2].filter fun x => (aget m x).isSome).filter fun x => decide (t < ((aget m x).getD (0, 0)).2)).map fun x => ((aget m x).getD (0, 0)).2
def maxI : List Int → Int
  | [] => 0
  | n :: ns => ns.foldl max n
def pressOne (t : Int) (m : Found) (p : Pr) : Found := if wets t m p = [] then m else putM (putM m p.1 t (maxI (wets t m p))) p.2 t (maxI (wets t m p))
def freshOne (t : Int) (m : Found) (p : Pr) : List T3 := if wets t m p = [] then [] else [p.1, p.2].filter fun x => (aget m x).isNone
def pressAll (t : Int) (m : Found) (ps : List Pr) : Found := ps.foldl (pressOne t) m
def freshAll (t : Int) : Found → List Pr → List T3
  | _, [] => []
  | m, p :: ps => freshOne t m p ++ freshAll t (pressOne t m p) ps
def PrBox (ps : List Pr) : Prop := ∀ p ∈ ps, p.1 ∈ box 8 2 6 ∧ p.2 ∈ box 8 2 6
def F_pressed : FS := fun ds st Q => ∃ (j : Nat) (m : Found) (t : Int) (ps : List Pr), ds = [.ptr j, .int t, ePrs ps] ∧ st[j]? = some (eFo m) ∧ Kd m ∧ PrBox ps ∧ ps.length ≤ 1000 ∧ Q (.lst ((freshAll t m ps).map e3)) (st.set j (eFo (pressAll t m ps)))
structure Drop where
  f : Int
  x : T3
  w : Int
def eDr (d : Drop) : D := .tup [.int d.f, e3 d.x, .int d.w]
/-- drops that have fallen by t are put on -/
def drain (t : Int) : List Drop → Found → List Drop × Found
  | [], m => ([], m)
  | d :: l, m => if d.f ≤ t then drain t l (putM m d.x d.f (d.f + d.w)) else (d :: l, m)
def spStep (q : List Drop × Found) (ev : Ev) : List Drop × Found := ((drain ev.2.1 q.1 q.2).1, pressAll ev.2.1 (drain ev.2.1 q.1 q.2).2 ev.2.2)
def putAll (l : List Drop) (m : Found) : Found := l.foldl (fun m d => putM m d.x d.f (d.f + d.w)) m
def spreadM (evs : List Ev) (l : List Drop) : Found := putAll (evs.foldl spStep (l, [])).1 (evs.foldl spStep (l, [])).2
def leDr (a b : Drop) : Bool := PySem.W.dataLe false py (eDr a) (eDr b)
def sortDr (l : List Drop) : List Drop := l.mergeSort leDr
def F_spread : FS := fun ds st Q => ∃ (L C : Nat) (s : Stand) (r : List Deed) (l : List Drop), ds = [eSh L C, eSt s, eR r, .lst (l.map eDr)] ∧ OkAll C s r ∧ InBox (evsOf C s r) ∧ (∀ d ∈ l, d.x ∈ box 8 2 6) ∧ l.length ≤ 1000 ∧
  Q (.dct (kD e3 (spreadM (evsOf C s r) (sortDr l))) (vD eMk (spreadM (evsOf C s r) (sortDr l)))) st
def le3 (a b : T3) : Bool := PySem.W.dataLe false py (e3 a) (e3 b)
def sort3 (l : List T3) : List T3 := l.mergeSort le3
def eMark (p : T3 × Mk2) : D := .tup [e3 p.1, .int p.2.1, .int p.2.2]
def marksM (m : Found) : List (T3 × Mk2) := (sort3 (m.map (·.1))).map fun x => (x, (aget m x).getD (0, 0))
def F_marks : FS := fun ds st Q => ∃ (L C : Nat) (s : Stand) (r : List Deed) (l : List Drop), ds = [eSh L C, eSt s, eR r, .lst (l.map eDr)] ∧ OkAll C s r ∧ InBox (evsOf C s r) ∧ (∀ d ∈ l, d.x ∈ box 8 2 6) ∧ l.length ≤ 1000 ∧
  Q (.lst ((marksM (spreadM (evsOf C s r) (sortDr l))).map eMark)) st
end BB
namespace BB
open PySem PySem.Spec PyProof.Rows L2
section
variable {ρ : DS} {Q : D → DS → Prop} {st : List Cell} {Z : D → Prop}
theorem ap_btN (g : WPl) (a : DA) : dBtN g a ρ Q = a ρ fun ds ρ1 => g ds ρ1.st fun es => Q (.ptr ρ1.st.length) ⟨ρ1.sl, ρ1.st ++ [.lst es]⟩ := rfl
theorem ap_isiA (Ts : List String) (a : DE) : dIsiA Ts a ρ Q = a ρ fun x ρ' => ∃ b, isiA Ts x = some b ∧ Q (.bl b) ρ' := rfl
theorem ap_lstRg (a : DE) : dLstRg1 a ρ Q = a ρ fun x ρ' => ∃ j : Nat, x = .int (j : Int) ∧ j ≤ 16777216 ∧ Q (.lst (intsD 0 j)) ρ' := rfl
theorem ap_ixMk (v : Mk2) (i : Int) : wIxA (eMk v) (.int i) st Z = ∃ d, atI [.int v.1, .int v.2] i = some d ∧ Z d := ap_ixT _ _
theorem ap_min2 {i j : Int} : wMin2 [.int i, .int j] st Z = Z (.int (min i j)) := propext ⟨fun ⟨_, _, e, h⟩ => by cases e; exact h, fun h => ⟨_, _, rfl, h⟩⟩
theorem ap_max2 {i j : Int} : wMax2 [.int i, .int j] st Z = Z (.int (max i j)) := propext ⟨fun ⟨_, _, e, h⟩ => by cases e; exact h, fun h => ⟨_, _, rfl, h⟩⟩
theorem ap_ixDr (d : Drop) (i : Int) : wIxA (eDr d) (.int i) st Z = ∃ x, atI [.int d.f, e3 d.x, .int d.w] i = some x ∧ Z x := ap_ixT _ _
theorem ap_gtupDr2 {r : DGs} {d : Drop} {R : DS → Prop} : gTupD 3 r (eDr d) ρ R = r [.int d.f, e3 d.x, .int d.w] ρ R := (ap_gtup 3 r _).trans (propext ⟨fun h => h.2, fun h => ⟨rfl, h⟩⟩)
theorem ap_gtupE {r : DGs} {e : Ev} {R : DS → Prop} : gTupD 3 r (eEv e) ρ R = r [.int (e.1 : Int), .int e.2.1, ePrs e.2.2] ρ R := (ap_gtup 3 r _).trans (propext ⟨fun h => h.2, fun h => ⟨rfl, h⟩⟩)
end
end BB
set_option maxRecDepth 100000
/-! k10: the searches over plain data, what their defs promise. -/
namespace BB
open PySem PySem.Spec PyProof.Rows L2
def firstM (L : Nat) : Stand := (List.range L).map fun (i : Nat) => ((i : Int), 0, 0)
def F_first_stand : FS := fun ds st Q => ∃ (L C : Nat), ds = [eSh L C] ∧ L ≤ 1000 ∧ Q (eSt (firstM L)) st
def deedsM (L : Nat) : List Deed := (List.range L).map .about ++ (List.range L).map .over ++ (List.range (L - 1)).map .press ++ (List.range (L - 1)).map .swap
def F_all_deeds : FS := fun ds st Q => ∃ (L C : Nat), ds = [eSh L C] ∧ 0 < L ∧ L ≤ 1000 ∧ Q (.lst ((deedsM L).map eD)) st
def F_law_deeds : FS := F_all_deeds
abbrev State := Stand × T3
def eSta (x : State) : D := .tup [eSt x.1, e3 x.2]
def laterM (C : Nat) (s : Stand) (x : T3) (d : Deed) : List State := match isPress d with
  | none => [(movedM s d, x)]
  | some k => (s, x) :: (match partM (pairsAt C s k) x with
    | some t => [(s, t)]
    | none => [])
def F_later : FS := fun ds st Q => ∃ (L C : Nat) (s : Stand) (x : T3) (d : Deed), ds = [eSh L C, eSt s, e3 x, eD d] ∧ okDeed s.length d ∧ OkStand s ∧ C ≤ 1000 ∧ Q (.lst ((laterM C s x d).map eSta)) st
/-! ### the law's own judge -/
def cellsM (C : Nat) (a : Int) : List Int := if a = 1 then ((List.range C).map fun (i : Nat) => (i : Int)).reverse else (List.range C).map fun (i : Nat) => (i : Int)
def F_law_cells : FS := fun ds st Q => ∃ (L C : Nat) (a : Int), ds = [eSh L C, .int a] ∧ C ≤ 1000 ∧ Q (.lst ((cellsM C a).map .int)) st
def lawPairs (C : Nat) (p q : T3) : List Pr := ((cellsM C p.2.2).zip (cellsM C q.2.2)).map fun z => ((p.1, 1 - p.2.1, z.1), (q.1, q.2.1, z.2))
def F_law_pairs : FS := fun ds st Q => ∃ (L C : Nat) (s : Stand) (g : Nat) (p q : T3), ds = [eSh L C, eSt s, .int (g : Int)] ∧ s[g]? = some p ∧ s[g + 1]? = some q ∧ C ≤ 1000 ∧ Q (ePrs (lawPairs C p q)) st
def F_law_moved : FS := fun ds st Q => ∃ (s : Stand) (d : Deed), ds = [eSt s, eD d] ∧ okDeed s.length d ∧ s.length ≤ 1000 ∧ Q (eSt (movedM s d)) st
def overM : List Pr → T3 → Option T3
  | [], _ => none
  | (a, b) :: r, x => if a = x then some b else if b = x then some a else overM r x
def F_law_over : FS := fun ds st Q => ∃ (ps : List Pr) (x : T3), ds = [ePrs ps, e3 x] ∧ Q (eO (overM ps x)) st
/-- where the law's judge comes to by one more deed -/
def nextL (C : Nat) (s : Stand) (x : T3) (d : Deed) : Option State := match isPress d with
  | none => some (movedM s d, x)
  | some k => (partM (pairsAt C s k) x).map fun t => (s, t)
abbrev Node := List Deed × Stand × T3
abbrev SeenM := List (State × Bool)
/-- a state is looked at -/
def visS (g : T3) (done : List Deed) (d : Deed) (q : SeenM × List Node) (z : State) : Except (List Deed) (SeenM × List Node) :=
  if z.2 = g then .error (done ++ [d]) else if (aget q.1 z).isSome = true then .ok q else .ok (aput q.1 z true, q.2 ++ [(done ++ [d], z.1, z.2)])
def stepL (C : Nat) (g : T3) (n : Node) (q : SeenM × List Node) (d : Deed) : Except (List Deed) (SeenM × List Node) := match nextL C n.2.1 n.2.2 d with
  | none => .ok q
  | some z => visS g n.1 d q z
def stepP (C : Nat) (g : T3) (n : Node) (q : SeenM × List Node) (d : Deed) : Except (List Deed) (SeenM × List Node) := (laterM C n.2.1 n.2.2 d).foldlM (visS g n.1 d) q
def nodeX (f : Node → SeenM × List Node → Deed → Except (List Deed) (SeenM × List Node)) (L : Nat) (q : SeenM × List Node) (n : Node) : Except (List Deed) (SeenM × List Node) := (deedsM L).foldlM (f n) q
def turnX (f : Node → SeenM × List Node → Deed → Except (List Deed) (SeenM × List Node)) (L : Nat) (q : SeenM × List Node) : Except (List Deed) (SeenM × List Node) := q.2.foldlM (nodeX f L) (q.1, [])
def loopX (f : Node → SeenM × List Node → Deed → Except (List Deed) (SeenM × List Node)) (L : Nat) : Nat → SeenM × List Node → Except (List Deed) (SeenM × List Node)
  | 0, q => .ok q
  | n + 1, q => turnX f L q >>= loopX f L n
def outX : Except (List Deed) (SeenM × List Node) → Option (List Deed)
  | .error r => some r
  | .ok _ => none
def startX (s : Stand) (x : T3) : SeenM × List Node := ([((s, x), true)], [([], s, x)])
def broughtL (L C : Nat) (s : Stand) (x g : T3) (n : Nat) : Option (List Deed) := outX (loopX (stepL C g) L n (startX s x))
def broughtP (L C : Nat) (s : Stand) (x g : T3) (n : Nat) : Option (List Deed) := if x = g then some [] else outX (loopX (stepP C g) L n (startX s x))
def eDs : Option (List Deed) → D
  | some l => .lst (l.map eD)
  | none => .non
/-- few states: what keeps a search small -/
structure Small (L C : Nat) (s : Stand) : Prop where
  st : OkSt L s
  hL0 : 0 < L
  hL : L ≤ 3
  hC : C ≤ 3
def F_law_brought : FS := fun ds st Q => ∃ (L C : Nat) (s : Stand) (x g : T3) (n : Nat), ds = [eSh L C, eSt s, e3 x, e3 g, .int (n : Int)] ∧ Small L C s ∧ x ∈ box L 2 C ∧ g ∈ box L 2 C ∧ x ≠ g ∧ n ≤ 12 ∧ Q (eDs (broughtL L C s x g n)) st
/-- bring, behind its first row -/
def F_bring2 (ds : List D) (st : List Cell) (Q : D → List Cell → Prop) : Prop := ∃ (L C : Nat) (s : Stand) (x g : T3) (n : Nat), ds = [eSh L C, eSt s, e3 x, e3 g, .int (n : Int)] ∧ Small L C s ∧ x ∈ box L 2 C ∧ g ∈ box L 2 C ∧ n ≤ 12 ∧ Q (eDs (broughtP L C s x g n)) st
end BB
namespace BB
open PySem PySem.Spec PyProof.Rows L2
/-- what law_like is asked: values of depth n at most, the same twice -/
def Atom (x : D) : Prop := x = .non ∨ (∃ i, x = .int i) ∨ ∃ s, x = .str s ∧ PyData.canLay0 (.str s) = true
def LK : Nat → D → Prop
  | 0, x => Atom x
  | n + 1, x => Atom x ∨ ∃ ds, (x = .lst ds ∨ x = .tup ds) ∧ ds.length ≤ 1000 ∧ ∀ d ∈ ds, LK n d
def F_like (n : Nat) : FS := fun ds st Q => ∃ x, ds = [x, x] ∧ LK n x ∧ Q (.bl true) st
def F_like0 : FS := fun _ _ _ => False
/-- bring as a whole -/
def FX_bring (ds : List D) (st : List Cell) (Q : D → List Cell → Prop) (Z : List Cell → Prop) : Prop :=
  (∃ (L C : Nat) (s : Stand) (x g : T3) (n : Nat), ds = [eSh L C, eSt s, e3 x, e3 g, .int (n : Int)] ∧ Small L C s ∧ x ∈ box L 2 C ∧ g ∈ box L 2 C ∧ n ≤ 12 ∧ Q (eDs (broughtP L C s x g n)) st) ∨
  (∃ (L C : Nat) (a b c d : D), ds = [eSh L C, a, b, c, d] ∧ (3 < L ∨ 3 < C) ∧ Z st)
end BB
namespace BB
open PySem PySem.Spec PyProof.Rows L2
def F_law_refused_so : FS := fun ds st Q => ∃ (L C : Nat) (x : T3), ds = [eSh L C, e3 x] ∧ L ≤ 1000 ∧ (((3 < L ∨ 3 < C) ∧ Q (.tup [.str "many", .int 3]) st) ∨ (0 < L ∧ L ≤ 3 ∧ C ≤ 3 ∧ x ∈ box L 2 C ∧ Q (.lst []) st))
end BB
set_option maxRecDepth 100000
set_option maxHeartbeats 1000000
/-! The data layer, 14: own exceptions: C.__init__(self, ..) of an own class above, calls that may let an exception out. -/
namespace BB
open PySem PySem.Spec PyProof.Rows L2
section
variable {X : Cx} {e : Expr} {es : List Expr} {ta : TA} {p1 p2 pos : Pos} {N : Str} {B : Addr} {mc : Value}
/-- B.__init__(self, ..), B an own class that has it from ValueError -/
theorem pe_ownInit {pl : Sem Bool} (hg : Gl X N) (hm : X.mg N = some (.ref B)) (r : ClX.CRead X.K B mc) (vV : PySem.W.findCls X.K (.ref B) mc "__init__" = some (.val (.builtin "ValueError.__init__"))) (ha : PA X (e :: es) ta) (hdb : (N == ("__debug__" : Str)) = false := by decide)
    (hc : eval (.Call (.Attribute (.Name N p1) "__init__" p2) (e :: es) [] pos) X.env = (do
      let ov ← eval (.Name N p1) X.env
      standAt p2.atName
      let (f, first) ← holding [ov] (getMethod ov "__init__" pl)
      callWith pos f first (backTo pos (starEach (e :: es) X.env)) (backToKw pos (keywordEach [] X.env))) := by rfl)
    (he : starEach (e :: es) X.env = (false, eval e X.env) :: starEach es X.env := by rfl) (hpl : (backTo pos (starEach es X.env)).any (·.1) = false := by rfl) :
    PE X (.Call (.Attribute (.Name N p1) "__init__" p2) (e :: es) [] pos) (tVeI X.K ta) := by
  refine ⟨fun pins s σ H Q I h => ?_⟩
  refine PySem.W.methodCall_KW (ld_glob I hg hm ?_ hdb) hc
  refine PySem.W.method_cls I.kIn r.ga (PySem.W.cls_value I.kIn r.rd vV (by decide +kernel) ?_)
  show wpAny _ _ (callWith pos (Value.builtin "ValueError.__init__") [] (backTo pos (starEach (e :: es) X.env)) []) _ _ _
  refine PyProof.Rows.callWith_method1 (thn (ha.run pos pins _ σ H _ (I.tok _) h) fun us s1 ⟨vs, H1, I1, r1, a, C, ws, ev, hl, T, ea, q⟩ => ?_) he hpl
  subst ev
  cases r1 with
  | @cons _ u0 _ ur ra rw' =>
    obtain rfl : u0 = Value.ref a := ra
    have hlen : ur.length ≤ sizeLine := by
      rw [← Paired.length rw', sizeLine_eq]
      omega
    exact oinit_ok T I1 ea hlen fun s' J => ⟨.non, H1, J, rfl, q⟩
end
end BB
namespace BB
open PySem PySem.Spec PyProof.Rows L2
/-! ### defs that may let an exception out -/
abbrev FSX := List D → List Cell → (D → List Cell → Prop) → (List Cell → Prop) → Prop
def spX (G : Gd) (n : Nat) (F : FSX) (C : Addr) (fs : List (Str × V)) : Sp := fun vs H Q E => ∃ as st ds P Z, ds.length = n ∧ RepSt G H as st ∧ RepAll G H as vs ds ∧ F ds st P Z ∧
  (∀ z st' as' v H', P z st' → RepSt G H' as' st' → Rep G H' as' v z → Frm as H as' H' → Q v H') ∧ (∀ st' as' dd H', Z st' → RepSt G H' as' st' → Frm as H as' H' → H' dd = some (.xd fs) → E (.ref C) (some dd) H')
structure HasX (P : Program) (w : World) (K : PySem.W.Frag) (mg : Str → Option Value) (base : Heap) (x : Str) (k np : Nat) (ks : List Str) (dv : List Int) (C : Addr) (fs : List (Str × V)) (F : FSX) : Prop where
  ex : ∃ (f : Addr) (fd : FuncData) (ps : List Str), ps.length = np + ks.length ∧ FnOk P w K mg base (L2.CX P w) k f fd ps (spX ⟨P, w, K⟩ (np + ks.length) F C fs) ∧ mg x = some (.ref f) ∧ PySem.W.keepIn K (.ref f) = true ∧
    (∃ ds, Vals (dv.map V.int) ds ∧ Binds K fd ps ds) ∧ KBn K fd ps np ks (fun us ws => us ++ ws) (fun vs zs => vs ++ zs)
section
variable {X : Cx}
theorem passE0 : Passes (L2.CX X.prog X.w) X E0 := fun _ _ _ _ _ _ _ ⟨_, _, _, _, _, _, _, _, _, _, _, _, h⟩ => h.elim
def dCallX (n : Nat) (F : FSX) (dv : List Int) (a : DA) : DE := fun ρ Q => a ρ fun ds ρ1 => (ds ++ dv.map D.int).length = n ∧ F (ds ++ dv.map D.int) ρ1.st (fun z st => Q z ⟨ρ1.sl, st⟩) fun _ => False
theorem repI {G : Gd} {H : Hp} {as : List Addr} : ∀ ns : List Int, RepAll G H as (ns.map V.int) (ns.map D.int)
  | [] => .nil
  | n :: ns => .cons (.int n) (repI ns)
theorem lift_callX {G : Gd} {n : Nat} {F : FSX} {dv : List Int} {C : Addr} {fs : List (Str × V)} {da : DA} {σ : L2.St} {H : Hp} {Q : VK} (h : liftE G (dCallX n F dv da) σ H Q) : tCall (spX G n F C fs) (dv.map V.int) E0 (liftA G da) σ H Q := by
  obtain ⟨as, ρ, P, R, w, k⟩ := h
  refine ⟨as, ρ, _, R, w, fun ds ρ1 as1 vs H1 w1 R1 r1 f1 => ?_⟩
  refine ⟨as1, ρ1.st, ds ++ dv.map D.int, _, fun _ => False, w1.1, R1.st, r1.append (repI dv), w1.2, fun z st' as' v H' pz R' r f => ?_, fun _ _ _ _ z => z.elim⟩
  exact k z _ as' v H' pz (R1.store f R') r (f1.trans f)
/-- f(e, ..), the defaults fill up; no exception here -/
theorem de_callX {x : Str} {p pos : Pos} {e : Expr} {es : List Expr} {da : DA} {k np : Nat} {ks : List Str} {dv : List Int} {C : Addr} {fs : List (Str × V)} {F : FSX} (h : HasX X.prog X.w X.K X.mg X.base x k np ks dv C fs F) (hr : Room k X.A) (hg : Gl X x) (ha : DAx X (e :: es) da)
    (hdb : (x == ("__debug__" : Str)) = false := by decide) (he : starEach (e :: es) X.env = (false, eval e X.env) :: starEach es X.env := by rfl) (hpl : (backTo pos (starEach es X.env)).any (·.1) = false := by rfl) :
    DEx X (.Call (.Name x p) (e :: es) [] pos) (dCallX (np + ks.length) F dv da) := by
  obtain ⟨f, fd, ps, hl, hF, hm, hk, ⟨ds, hd, hb⟩, _⟩ := h.ex
  exact pe_con' (pe_call hF hr hg hm hk hb hd passE0 ha hdb he hpl) fun _ _ _ q => lift_callX q
/-- f(e, .., k = v): by keywords -/
def dCallK (n m : Nat) (F : FSX) (a b : DA) : DE := fun ρ Q => a ρ fun ds ρ1 => b ρ1 fun es ρ2 => ds.length = n ∧ es.length = m ∧ F (ds ++ es) ρ2.st (fun z st => Q z ⟨ρ2.sl, st⟩) fun _ => False
def DKx (X : Cx) (kws : List Keyword) (d : DA) : Prop := PK X kws (liftA (gd X) d)
theorem dk_nil : DKx X [] dNil := ⟨fun pos pins s σ H Q I h => pk_nil.run pos pins s σ H Q I (by
  obtain ⟨as, ρ, P, R, w, k⟩ := h
  exact k [] ρ as [] H w R .nil (.refl _ _))⟩
theorem dk_cons {nm : Option Str} {e : Expr} {kpos : Pos} {kws : List Keyword} {d : DE} {da : DA} (he : DEx X e d) (hr : DKx X kws da) : DKx X (⟨nm, e, kpos⟩ :: kws) (dCons d da) := ⟨fun pos pins s σ H Q I h => (pk_cons he hr).run pos pins s σ H Q I (by
  obtain ⟨as, ρ, P, R, w, k⟩ := h
  exact ⟨as, ρ, _, R, w, fun x ρ1 as1 v H1 w1 R1 r1 f1 => ⟨as1, ρ1, _, R1, w1, fun xs ρ2 as2 vs H2 w2 R2 r2 f2 => k _ ρ2 as2 _ H2 w2 R2 (.cons (r1.frm f2) r2) (f1.trans f2)⟩⟩)⟩
theorem lift_callK {G : Gd} {n m : Nat} {F : FSX} {C : Addr} {fs : List (Str × V)} {da db : DA} {σ : L2.St} {H : Hp} {Q : VK} (h : liftE G (dCallK n m F da db) σ H Q) : tCallN n m (spX G (n + m) F C fs) (fun vs zs => vs ++ zs) E0 (liftA G da) (liftA G db) σ H Q := by
  obtain ⟨as, ρ, P, R, w, k⟩ := h
  refine ⟨as, ρ, _, R, w, fun ds ρ1 as1 vs H1 w1 R1 r1 f1 => ?_⟩
  refine ⟨as1, ρ1, _, R1, w1, fun es ρ2 as2 zs H2 w2 R2 r2 f2 => ?_⟩
  obtain ⟨h1, h2, w2⟩ := w2
  refine ⟨r1.length.trans h1, r2.length.trans h2, as2, ρ2.st, ds ++ es, _, fun _ => False, by rw [List.length_append, h1, h2], R2.st, (r1.frm f2).append r2, w2, fun z st' as' v H' pz R' r f => ?_, fun _ _ _ _ z => z.elim⟩
  exact k z _ as' v H' pz (R2.store f R') r ((f1.trans f2).trans f)
theorem de_callK {x : Str} {p pos : Pos} {e : Expr} {es : List Expr} {kws : List Keyword} {da db : DA} {k np : Nat} {ks : List Str} {dv : List Int} {C : Addr} {fs : List (Str × V)} {F : FSX} (h : HasX X.prog X.w X.K X.mg X.base x k np ks dv C fs F) (hr : Room k X.A) (hg : Gl X x) (ha : DAx X (e :: es) da) (hkw : DKx X kws db)
    (hall : (backToKw pos (keywordEach kws X.env)).all (·.1.isSome) = true := by rfl) (hks : (backToKw pos (keywordEach kws X.env)).filterMap (·.1) = ks := by rfl)
    (hdb : (x == ("__debug__" : Str)) = false := by decide) (he : starEach (e :: es) X.env = (false, eval e X.env) :: starEach es X.env := by rfl)
    (hpl : ((backTo pos (starEach (e :: es) X.env)).any (·.1) || (backToKw pos (keywordEach kws X.env)).any (·.1.isNone)) = false := by rfl) :
    DEx X (.Call (.Name x p) (e :: es) kws pos) (dCallK np ks.length F da db) := by
  obtain ⟨f, fd, ps, hl, hF, hm, hk, _, hb⟩ := h.ex
  exact pe_con' (pe_callN hF hr hg hm hk hb passE0 ha hkw hall hks hdb he hpl) fun _ _ _ q => lift_callK q
end
end BB
namespace BB
open PySem PySem.Spec PyProof.Rows L2
theorem dps_never {X : Cx} {sts : List Stmt} : DPs X sts (fun _ _ => False) := ⟨fun pins s σ H D I h => by
  obtain ⟨as, ρ, P, R, w, k⟩ := h
  exact w.elim⟩
end BB
set_option maxRecDepth 100000
set_option maxHeartbeats 1000000
/-! The data layer, 15: an own exception class with one field: it is made, raised, caught, asked. -/
namespace BB
open PySem PySem.Spec PyProof.Rows L2
/-- what the written part says of such a class -/
structure OxT (K : PySem.W.Frag) (C : Addr) (fld : Str) : Prop where
  ox : OexC K C
  ga : PySem.W.findIn K (.ref C) "__getattribute__" = some (some (.builtin "BaseException.__getattribute__"))
  gg : PySem.W.findIn K (.ref C) "__getattr__" = some none
  noN : PySem.W.findIn K (.ref C) fld = some none
  hdC : PySem.W.hasDictIn K C = true
  cl : (PySem.W.clsIn K C).isSome = true
  ca : PySem.W.findIn K (.ref C) "__class__" = some (some (.builtin "object.__class__"))
  cn : PySem.W.specialIn K (.builtin "object.__class__") "__get__" = some (some (.builtin "getset_descriptor.__get__"))
  ct : PySem.W.takesIn K (.builtin "object.__class__") = some true
  cm : PySem.W.mroIn K C (.type "object") = some true
/-- what its __init__ promises -/
def spIni (K : PySem.W.Frag) (fld : Str) : Sp := fun vs H Q _ => ∃ (a C : Addr) (y : V), vs = [.ref a, y] ∧ OexC K C ∧ PySem.W.findIn K (.ref C) fld = some none ∧ H a = some (exo a C none) ∧
  ∀ dx, H dx = none → dx ≠ a → Q .non (upd (upd H dx (exd dx [(fld, y)])) a (exo a C (some dx)))
def t_ini (K : PySem.W.Frag) (fld m : Str) : TS := tSeq (tDrop (tVeI K (tCons (tVar 0) (tCons (tC (.str m)) tNil)))) (tOst K fld (tVar 0) (tVar 1))
theorem ini_law {K : PySem.W.Frag} {fld m : Str} {N : List Str} {vs : List V} {H : Hp} {Q : VK} {E : XK} (h : spIni K fld vs H Q E) : t_ini K fld m { nx := fun _ H' => Q .non H', rt := Q } (L2.start N vs) H := by
  obtain ⟨a, C, y, rfl, T, hno, hH, k⟩ := h
  refine ⟨_, rfl, a, C, _, rfl, (show 1 ≤ 1000 by decide), T, hH, ?_⟩
  exact ⟨_, rfl, _, rfl, a, C, rfl, T, hno, .inl ⟨hH, fun dx hn hne => k dx hn hne⟩⟩
section
variable {X : Cx}
/-- X(e): what is left: the dict of the exception, new -/
theorem mkO_law {K : PySem.W.Frag} {C : Addr} {fld : Str} {y : V} {H : Hp} {Q : XK} {σ : L2.St} (T : OexC K C) (hno : PySem.W.findIn K (.ref C) fld = some none) (h : ∀ d, H d = none → Q (.ref C) (some d) (upd H d (.xd [(fld, y)]))) :
    tMkO C (spIni K fld) [] (tCons (tC y) tNil) σ H Q := by
  refine ⟨(show 1 ≤ 1000 by decide), fun a ha => ⟨a, C, y, rfl, T, hno, upd_same, fun dx hn hne => ⟨rfl, dx, [(fld, y)], upd_same, ?_, ?_, ?_⟩⟩⟩
  · rw [upd_ne hne, upd_same]
  · rw [upd_ne hne] at hn; exact hn
  · rw [upd_ne hne] at hn
    have e : upd (del (upd (upd (upd H a (exo a C none)) dx (exd dx [(fld, y)])) a (exo a C (some dx))) a) dx (.xd [(fld, y)]) = upd H dx (.xd [(fld, y)]) := by
      funext b
      by_cases hb : b = dx
      · rw [hb, upd_same, upd_same]
      · rw [upd_ne hb, upd_ne hb]
        by_cases hba : b = a
        · rw [hba, del_same, ha]
        · rw [del_ne hba, upd_ne hba, upd_ne hb, upd_ne hba]
    rw [e]
    exact h dx hn
/-- e.fld, e the exception that the suite holds -/
def tFld (C a : Addr) (fld : Str) (cls : Value) (d : Option Addr) (te : TE) : TE := fun σ H Q => te σ H fun x H1 => x = .ref a ∧ cls = .ref C ∧ ∃ (dd : Addr) (v : V), d = some dd ∧ H1 dd = some (.xd [(fld, v)]) ∧ Q v H1
theorem pe_fld {C a : Addr} {fld : Str} {oe : Obj} {cls : Value} {d : Option Addr} {pn : List (Addr × Obj)} {e : Expr} {te : TE} {pos : Pos} (T : OxT X.K C fld) (hz : Zc cls d oe) (hf : ∃ vs, oe.data = .fields vs) (he : PE (X.suite a ((a, oe) :: pn)) e te)
    (hb : attributeBase e fld X.env (eval e X.env) = eval e X.env := by rfl) :
    PE (X.suite a ((a, oe) :: pn)) (.Attribute e fld pos) (tFld C a fld cls d te) := by
  refine ⟨fun pins s σ H Q I h => ?_⟩
  refine attr_of hb (thn (he.run pins s σ H _ I h) fun u s1 hh => ?_)
  obtain ⟨x, H1, I1, rx, ex, ec, dd, v, ed, ea, q⟩ := hh
  subst ex
  obtain rfl : u = Value.ref a := rx
  subst ec
  subst ed
  obtain ⟨ha, _⟩ := I1.pin (a, oe) (List.mem_append_left _ List.mem_cons_self)
  obtain ⟨vs, hd⟩ := hf
  have hx : ObjOk X.prog X.w H1 s1.heap dd (.xd [(fld, v)]) := I1.hok dd _ ea
  obtain ⟨mA, hns, hr⟩ := hx
  obtain ⟨od, ho, hl⟩ := lookIn_ns hns
  have l : List.lookup fld [(fld, v)] = some v := by simp [List.lookup]
  obtain ⟨u, hu, ru⟩ := RelO.some_of (v := v) (o := mA fld) (by rw [← l]; exact hr fld)
  have J : PySem.W.InstAt s1.heap a oe C (some od) := ⟨ha, hz.1, by unfold PySem.W.notCls; rw [hd] <;> rfl, by rw [hz.2]; exact ho⟩
  exact HandSPX.exc_get I1.kIn J T.ga T.gg T.ox.exC (PySem.W.findObj_own T.hdC T.noN rfl (by rw [hl, hu])) (handed_of ru) ⟨v, H1, I1.tok _, ru, q⟩
/-- isinstance(e, c), e the exception that the suite holds, with its dict -/
def rIsF (K : PySem.W.Frag) (C a : Addr) (fld : Str) (cls : Value) (d : Option Addr) : List V → Hp → VK → Prop := fun xs H Q => ∃ (c : V) (cv : Value) (b : Bool) (dd : Addr) (v : V), xs = [.ref a, c] ∧ (∀ u, RelV c u → u = cv) ∧ cls = .ref C ∧ PySem.W.kitOne K (.ref C) cv = some b ∧ d = some dd ∧ H dd = some (.xd [(fld, v)]) ∧ Q (.bl b) H
theorem call_isF {C a : Addr} {fld : Str} {oe : Obj} {cls : Value} {d : Option Addr} {pn : List (Addr × Obj)} (T : OxT X.K C fld) (hz : Zc cls d oe) (hf : ∃ vs, oe.data = .fields vs) : CallR (X.suite a ((a, oe) :: pn)) (.builtin "isinstance") (rIsF X.K C a fld cls d) := by
  intro pins s σ H xs us Q I r h
  obtain ⟨c, cv, b, dd, v, rfl, hcv, ec, e, ed, hx, q⟩ := h
  subst ec
  subst ed
  cases r with
  | cons rx rr =>
    cases rr with
    | cons rt rr =>
      cases rr
      cases rx
      have ec := hcv _ rt
      subst ec
      obtain ⟨hget, _⟩ := I.pin (a, oe) (List.mem_append.mpr (.inl List.mem_cons_self))
      obtain ⟨vs, hv⟩ := hf
      have hx : ObjOk X.prog X.w H s.heap dd (.xd [(fld, v)]) := I.hok dd _ hx
      obtain ⟨mA, hns, hr⟩ := hx
      obtain ⟨od, ho, hl⟩ := lookIn_ns hns
      have J : PySem.W.InstAt s.heap a oe C (some od) := ⟨hget, hz.1, by unfold PySem.W.notCls; rw [hv] <;> rfl, by rw [hz.2]; exact ho⟩
      exact PySem.W.kia_one (PySem.W.kitx_exc T.cl T.ga T.gg T.ox.exC T.ca T.cn T.ct T.cm) I.kIn J e (fun z => nomatch z) fun tk => ⟨.bl b, H, I.kept (t' := tk) fun _ _ z => z, rfl, q⟩
/-! ### a def that raises first of all, where a test holds -/
theorem hasX_of {P : Program} {w : World} {K : PySem.W.Frag} {mg : Str → Option Value} {base : Heap} {x qual : Str} {st : Stmt} {f : Addr} {fd : FuncData} {N ps : List Str} {k np : Nat} {ks : List Str} {dv : List Int} {C : Addr} {fld : Str} {y : V} {F : FSX} (hF : Fun K x qual st f fd) (S : FnScope N ps (defScope st)) (hn : ps.length = np + ks.length) (hmg : mg x = some (.ref f))
    (hb : ∃ ds, Vals (dv.map V.int) ds ∧ Binds K fd ps ds) (hk : KBn K fd ps np ks (fun us ws => us ++ ws) (fun vs zs => vs ++ zs)) (T : OexC K C) (hno : PySem.W.findIn K (.ref C) fld = some none) {c r : Expr} {pos rp : Pos} {rest : List Stmt} (hst : defBody st = .If c [.Raise (some r) none rp] [] pos :: rest) (dt : DT) (d : DP)
    (hbody : ∀ (cdv : Value) (A : Around) (outer : List Env) (s : Shared) (H : Hp) (E : XK), Room k (A.deeper (envOfC qual (defScope st) s.heap.objs.size f cdv)) →
      DTx (cxOf (L2.CX P w) P w K mg base N qual (defScope st) f cdv A outer s H E) c dt ∧ PMk (cxOf (L2.CX P w) P w K mg base N qual (defScope st) f cdv A outer s H E) r (tMkO C (spIni K fld) [] (tCons (tC y) tNil)) ∧ DPs (cxOf (L2.CX P w) P w K mg base N qual (defScope st) f cdv A outer s H E).nox rest d)
    (spec : ∀ ds st' Q Z, ds.length = np + ks.length → WfS st' → F ds st' Q Z → dt ⟨startD N.length ds, st'⟩ fun b ρ => (b = true → Z ρ.st) ∧ (b = false → d (endsOf st'.length Q) ρ)) : HasX P w K mg base x (k + 1) np ks dv C [(fld, y)] F := by
  refine ⟨f, fd, ps, hn, hF.okX S (fun vs H Q E ⟨as, st', ds, Q', Z, hl, R, r, _⟩ => (r.length.trans hl).trans hn.symm) (fun cdv A outer s H vs Q E hr h => ?_), hmg, hF.kp, hb, hk⟩
  obtain ⟨as, st', ds, Q', Z, hl, R, r, hp, kk, kz⟩ := h
  obtain ⟨h1, h2, h3⟩ := hbody cdv A outer s H E hr
  rw [hst]
  refine ⟨_, pss_cons (ps_if h1 (pss_one (ps_raise rfl (takes_of rfl rfl rfl rfl) h2)) pss_nil) (PSs.nox h3), ?_⟩
  refine ⟨as, ⟨startD N.length ds, st'⟩, _, ⟨(rep_start r).1, (rep_start r).2, R⟩, spec ds st' Q' Z hl R.wf hp, fun b ρ' as' H' ⟨p1, p2⟩ R' fr => ?_⟩
  cases b with
  | true =>
    refine (if_pos rfl).mpr (mkO_law T hno fun dd hd => ?_)
    have sm : Same H' (upd H' dd (.xd [(fld, y)])) := Same.upd hd
    exact kz ρ'.st as' dd _ (p1 rfl) (R'.same sm).st (fr.trans (.same sm)) upd_same
  | false =>
    refine (if_neg (by decide)).mpr ?_
    refine ⟨as', ρ', endsOf st'.length Q', R', p2 rfl, ?_⟩
    refine ⟨fun ρ2 as2 σ2 H2 p R2 fr2 => ?_, fun z st2 as2 v H2 p R2 rv fr2 => ret_lift R p R2 rv (fr.trans fr2) kk, fun _ _ _ _ p => p.elim, fun _ _ _ _ p => p.elim⟩
    exact ret_lift R p R2.st .non (fr.trans fr2) kk
end
end BB
set_option maxRecDepth 100000
set_option maxHeartbeats 1000000
/-! The data layer, 16: try: return g(..) except X as n: return (word, n.fld) if isinstance(n, B) else (other,). -/
namespace BB
open PySem PySem.Spec PyProof.Rows L2
section
variable {X : Cx}
def dTryX (i n : Nat) (F : FSX) (dv : List Int) (a : DA) (z : D) : DP := fun P ρ => a ρ fun ds ρ1 => i < ρ1.sl.length ∧ (ds ++ dv.map D.int).length = n ∧ F (ds ++ dv.map D.int) ρ1.st P.rt fun st => P.rt z st
def tsX (K : PySem.W.Frag) (C B : Addr) (fld m m' : Str) (i : Nat) : Addr → Value → Option Addr → TS := fun a cls d =>
  tRet (tIf (tB (tCB (rIsF K C a fld cls d) (tCons (tVar i) (tCons (tC (.ref B)) tNil)))) (tTup (tCons (tC (.str m)) (tCons (tFld C a fld cls d (tVar i)) tNil))) (tTup (tCons (tC (.str m')) tNil)))
theorem tsX_law {K : PySem.W.Frag} {C B a dd : Addr} {fld m m' : Str} {i : Nat} {j : Int} {E : Ends} {σ : L2.St} {H : Hp} (hi : i < σ.length) (kB : PySem.W.kitOne K (.ref C) (.ref B) = some true) (hd : H dd = some (.xd [(fld, .int j)]))
    (h : ∀ p, H p = none → E.rt (.ref p) (upd H p (.tup [.str m, .int j]))) : tsX K C B fld m m' i a (.ref C) (some dd) E (σ.set i (some (.ref a))) H := by
  have hv : (σ.set i (some (V.ref a)))[i]? = some (some (.ref a)) := by rw [List.getElem?_set_self hi]
  refine ⟨_, hv, .ref B, .ref B, true, dd, .int j, rfl, fun u r => r, rfl, kB, rfl, hd, true, rfl, ?_⟩
  refine (if_pos rfl).mpr ?_
  exact ⟨_, hv, rfl, rfl, dd, .int j, rfl, hd, (show 2 ≤ sizeLine by decide), fun p hp => h p hp⟩
theorem dp_tryX {i k np : Nat} {x g n bn fld m m' : Str} {ks : List Str} {dv : List Int} {C B : Addr} {j : Int} {F : FSX} {e : Expr} {es : List Expr} {da : DA} {k1 k2 : Nat} {p1 p2 p3 p4 p5 p6 p7 p8 p9 p10 p11 p12 p13 p14 p15 p16 pos pos' : Pos} {x1 x2 : Nat}
    (hs : X.stack = X.env :: X.outer) (hf : X.env.frame = some X.env.locals) (hN : X.N.Nodup) (hi : X.N[i]? = some n) (hln : X.env.kindOf n = some .local)
    (h : HasX X.prog X.w X.K X.mg X.base g k np ks dv C [(fld, .int j)] F) (hr : Room k X.A) (hg : Gl X g) (hgd : (g == ("__debug__" : Str)) = false)
    (hx : Gl X x) (hxd : (x == ("__debug__" : Str)) = false) (mx : X.mg x = some (.ref C)) (te : PySem.W.exmOne X.K (.ref C) (.ref C) = some true) (T : OxT X.K C fld)
    (his : Gl X "isinstance") (mis : X.mg "isinstance" = none) (hbn : Gl X bn) (hbd : (bn == ("__debug__" : Str)) = false) (mB : X.mg bn = some (.ref B)) (kB : PySem.W.kitOne X.K (.ref C) (.ref B) = some true) (hnd : (n == ("__debug__" : Str)) = false) (hnc : (n == ("__classdict__" : Str)) = false) (hnv : Vis X.env.scope n)
    (ha : ∀ (pn : List (Addr × Obj)) (xe : Value → Shared → Prop), DAx (X.tr pn xe) (e :: es) da)
    (he : starEach (e :: es) X.env = (false, eval e X.env) :: starEach es X.env := by rfl) (hpl : (backTo p2 (starEach es X.env)).any (·.1) = false := by rfl) :
    DPx X (.Try [.Return (some (.Call (.Name g p1) (e :: es) [] p2)) p3] [.ExceptHandler (some (.Name x p4)) (some n) [.Return (some (.IfExp (.Call (.Name "isinstance" p5) [.Name n p6, .Name bn p7] [] p8)
      (.Tuple [.Constant (.str m) k1 p9, .Attribute (.Name n p10) fld p11] x1 p12) (.Tuple [.Constant (.str m') k2 p13] x2 p14) p15)) p16] pos'] [] [] pos) (dTryX i (np + ks.length) F dv da (.tup [.str m, .int j])) := by
  obtain ⟨f, fd, ps, hl, hF, hm2, hk, ⟨ds0, hd, hb⟩, _⟩ := h.ex
  refine ps_con' (ps_try_as (i := i) (c := .ref C) (tb := fun W => tRet (tCallSD (spX ⟨X.prog, X.w, X.K⟩ (np + ks.length) F C [(fld, .int j)]) (dv.map V.int) (WE W) (liftA (gd X) da))) (ts := tsX X.K C B fld m m' i) (Wout := fun _ _ _ _ => False) hs hf hN hi hln ⟨hx, hxd, .inl mx⟩ takes0
    (fun W pn xe tk _ => pss_one (ps_ret (pe_callSD hF hr hg hm2 hk hb hd (fun σ => passAt tk σ) (ha pn xe) hgd he hpl)))
    (fun a oe cls d pn hz hfl => pss_one (ps_ret (pe_ifExp (pt_val (pe_callB (call_isF T hz hfl) his mis (by decide +kernel) (pa_cons (pv i hi hnv hnd hnc) (pa_cons (pe_glob hbn mB rfl hbd) pa_nil)))) (pe_tup (pa_cons pe_str (pa_cons (pe_fld T hz hfl (pv i hi hnv hnd hnc)) pa_nil))) (pe_tup (pa_cons pe_str pa_nil)))))) ?_
  intro Dn σ H ⟨as, ρ, P, R, w, ends⟩
  refine ⟨as, ρ, _, R, w, fun ds ρ1 as1 vs H1 ⟨w0, w1, w2⟩ R1 r1 f1 => ?_⟩
  refine ⟨as1, ρ1.st, ds ++ dv.map D.int, _, _, w1, R1.st, r1.append (repI dv), w2, fun z st' as' v H' pz R' r f => ends.rt z st' as' v H' pz R' r (f1.trans f), fun st' as' dd H' z R' f hx => ?_⟩
  refine ⟨true, te, fun _ a0 _ => tsX_law (by rw [R1.len]; exact w0) kB hx fun p hp => ?_, fun q => nomatch q⟩
  have sm : Same H' (upd H' p (.tup [.str m, .int j])) := Same.upd hp
  exact ends.rt _ st' as' _ _ z (R'.same sm) (.tup (SqT.of upd_same) (.cons (.str m) (.cons (.int j) .nil))) (f1.trans (f.trans (.same sm)))
end
end BB
namespace BB
open PySem PySem.Spec PyProof.Rows L2
/-- the statements of a class -/
def clB : Stmt → List Stmt
  | .ClassDef _ _ _ b _ _ _ _ _ _ _ => b
  | _ => []
/-- an own exception class stands ready -/
structure OxD (P : Program) (w : World) (K : PySem.W.Frag) (mg : Str → Option Value) (base : Heap) (x : Str) (C : Addr) (fld : Str) : Prop where
  T : OxT K C fld
  gC : mg x = some (.ref C)
  te : PySem.W.exmOne K (.ref C) (.ref C) = some true
  ini : ∃ (fI : Addr) (fd : FuncData) (ps : List Str), PySem.W.findIn K (.ref C) "__init__" = some (some (.ref fI)) ∧ PySem.W.typeIn K (.ref fI) = some (.type "function") ∧ FnOk P w K mg base CX0 1 fI fd ps (spIni K fld) ∧ Binds K fd ps []
theorem OxD.pmk {X : Cx} {x : Str} {C : Addr} {fld : Str} {y : V} {e : Expr} {p pos : Pos} (h : OxD X.prog X.w X.K X.mg X.base x C fld) (hr : Room 2 X.A) (hg : Gl X x) (ha : PA X [e] (tCons (tC y) tNil))
    (hdb : (x == ("__debug__" : Str)) = false := by decide) (he : starEach [e] X.env = (false, eval e X.env) :: starEach [] X.env := by rfl) (hpl : (backTo pos (starEach [] X.env)).any (·.1) = false := by rfl) : PMk X (.Call (.Name x p) [e] [] pos) (tMkO C (spIni X.K fld) [] (tCons (tC y) tNil)) := by
  obtain ⟨fI, fd, ps, i1, i2, i3, i4⟩ := h.ini
  exact pmk_oex h.T.ox i1 i2 i3 hr i4 .nil pass0 hg h.gC ha hdb he hpl
end BB
set_option maxRecDepth 100000
/-! The data layer, 17: constants of the module that are ints. -/
namespace BB
open PySem PySem.Spec PyProof.Rows L2
section
variable {X : Cx} {x : Str} {i : Int} {pos : Pos}
theorem de_gintE (hg : Gl X x) (hm : ∃ t, X.mg x = some (.int i t)) (hd : (x == ("__debug__" : Str)) = false := by decide) : DEx X (.Name x pos) (dC (.int i)) := by
  obtain ⟨t, hm⟩ := hm
  exact de_gint hg hm hd
theorem pe_globI (hg : Gl X x) (hm : ∃ t, X.mg x = some (.int i t)) (hd : (x == ("__debug__" : Str)) = false := by decide) : PE X (.Name x pos) (tC (.int i)) := by
  obtain ⟨t, hm⟩ := hm
  exact pe_glob hg hm ⟨t, rfl⟩ hd
end
section
variable {ρ : DS} {Q : D → DS → Prop}
theorem ap_callX (n : Nat) (F : FSX) (dv : List Int) (a : DA) : dCallX n F dv a ρ Q = a ρ fun ds ρ1 => (ds ++ dv.map D.int).length = n ∧ F (ds ++ dv.map D.int) ρ1.st (fun z st => Q z ⟨ρ1.sl, st⟩) fun _ => False := rfl
theorem ap_callK (n m : Nat) (F : FSX) (a b : DA) : dCallK n m F a b ρ Q = a ρ fun ds ρ1 => b ρ1 fun es ρ2 => ds.length = n ∧ es.length = m ∧ F (ds ++ es) ρ2.st (fun z st => Q z ⟨ρ2.sl, st⟩) fun _ => False := rfl
end
theorem exm_self {K : PySem.W.Frag} {S : Addr} (h1 : PySem.W.subIn K (.ref S) (.type "BaseException") = some true) (h2 : PySem.W.isClsIn K S = true) (h3 : PySem.W.typeIn K (.ref S) = some (.type "type")) (h4 : PySem.W.subIn K (.ref S) (.ref S) = some true) :
    PySem.W.exmOne K (.ref S) (.ref S) = some true := by
  have h2' : (PySem.W.clsIn K S).isSome = true := h2
  have e : PySem.W.kitCls K (.ref S) (.ref S) = if ((PySem.W.clsIn K S).isSome && PySem.W.typeIn K (.ref S) == some (.type "type")) = true then PySem.W.subIn K (.ref S) (.ref S) else none := rfl
  unfold PySem.W.exmOne
  rw [e, h1, h2', h3, h4]
  rfl
theorem kit_own {K : PySem.W.Frag} {C B : Addr} (h2 : PySem.W.isClsIn K B = true) (h3 : PySem.W.typeIn K (.ref B) = some (.type "type")) (h4 : PySem.W.subIn K (.ref C) (.ref B) = some true) : PySem.W.kitOne K (.ref C) (.ref B) = some true := by
  have h2' : (PySem.W.clsIn K B).isSome = true := h2
  have e : PySem.W.kitCls K (.ref C) (.ref B) = if ((PySem.W.clsIn K B).isSome && PySem.W.typeIn K (.ref B) == some (.type "type")) = true then PySem.W.subIn K (.ref C) (.ref B) else none := rfl
  unfold PySem.W.kitOne
  split
  · rfl
  · rw [e, h2', h3, h4]
    rfl
end BB
set_option maxRecDepth 100000
set_option maxHeartbeats 1000000
/-! The data layer, 18: list comprehensions of any number of clauses. -/
namespace BB
open PySem PySem.Spec PyProof.Rows L2
/-- behind the tests of the j-th clause: the next clause's own loop, or what each item gives -/
def restC (e : Expr) (gs : List Comprehension) (emit : Value → Env → Sem Unit) (j : Nat) (acc : Value) (env : Env) : Sem Unit :=
  match gs[j + 1]? with
  | some g' => do
    let x ← eval g'.iter env
    standAt g'.iter.pos
    let x ← if g'.is_async != 0 then foldedIterable g'.iter x else foldedSetIterable g'.iter env x
    let _ ← runOwn (.compStart e (j + 1) (← holding [x] (if g'.is_async != 0 then asyncIter x else pyIter x)) acc env) env
  | none => emit acc env
def testsC (ifs : List Expr) (env : Env) : Sem Bool := forIn ifs true fun c r => if r = true then do let ok ← isTrue c env (eval c env); pure (ForInStep.yield ok) else pure (ForInStep.yield r)
/-- a comprehension: its clauses, what each item gives -/
structure CmpE (e : Expr) (gs : List Comprehension) (emit : Value → Env → Sem Unit) : Prop where
  cl : clausesOf e = gs
  turn : ∀ {t i : Expr} {ifs : List Expr} {j : Nat} {it acc : Value} {env : Env}, gs[j]? = some ⟨t, i, ifs, 0⟩ → (∀ g', gs[j + 1]? = some g' → g'.is_async = 0) → compTurn e j it acc env =
    (standAt i.pos >>= fun _ => pyNext it >>= fun r => match r with
      | none => pure (.done .next)
      | some v => letOwnedTupleGo t it v >>= fun _ => assign t env v >>= fun _ => testsC ifs env >>= fun ok =>
        if ok = true then restC e gs emit j acc env >>= fun _ => again (.compLoop e j it acc env) else again (.compLoop e j it acc env))
  denL : ∀ (P : Program) (w : World) (j : Nat) (it acc : Value) (env : Env), (model P w).den (.compLoop e j it acc env) = (compTurn e j it acc env).onRaise fun x => do noteFrame x env; theTreesLotGoes x
  undL : ∀ (A : Around) (j : Nat) (it acc : Value) (env : Env), A.under (.compLoop e j it acc env) = A
  quiL : ∀ (j : Nat) (it acc : Value) (env : Env), (Code.compLoop e j it acc env).quiet = true
  denS : ∀ (P : Program) (w : World) (j : Nat) (it acc : Value) (env : Env), (model P w).den (.compStart e j it acc env) = (compStart e j it acc env).onRaise fun x => do noteFrame x env; standAt theWindowsPlace
  undS : ∀ (A : Around) (j : Nat) (it acc : Value) (env : Env), A.under (.compStart e j it acc env) = A
def emitL (elt : Expr) (acc : Value) (env : Env) : Sem Unit := do let _ ← call (.builtin "list.append") [acc, ← eval elt env]
def emitD (k v : Expr) (acc : Value) (env : Env) : Sem Unit := do
  let kv ← eval k env
  let vv ← holding [kv] (eval v env)
  match acc with
  | .ref d => do
    standAt { k.pos with endLine := v.pos.endLine, endCol := v.pos.endCol }
    holding [kv, vv] (dictSet d kv vv)
  | _ => unsupported "internal:dictcomp"
theorem cmpL {elt : Expr} {gs : List Comprehension} {scope : Scope} {pos : Pos} : CmpE (.ListComp elt gs scope pos) gs (emitL elt) := ⟨rfl, fun {t i ifs j it acc env} h h' => by
  unfold compTurn restC testsC emitL
  simp only [h]
  cases q : gs[j + 1]? with
  | none => simp [bind_assoc]; rfl
  | some g' =>
    obtain ⟨t', i', ifs', a⟩ := g'
    have e : a = 0 := h' _ q
    subst e
    simp [bind_assoc]
    first | done | rfl, fun _ _ _ _ _ _ => rfl, fun _ _ _ _ _ => rfl, fun _ _ _ _ => rfl, fun _ _ _ _ _ _ => rfl, fun _ _ _ _ _ => rfl⟩
theorem cmpD {k v : Expr} {gs : List Comprehension} {scope : Scope} {pos : Pos} : CmpE (.DictComp k v gs scope pos) gs (emitD k v) := ⟨rfl, fun {t i ifs j it acc env} h h' => by
  unfold compTurn restC testsC emitD
  simp only [h]
  cases q : gs[j + 1]? with
  | none => cases acc <;> simp [bind_assoc] <;> rfl
  | some g' =>
    obtain ⟨t', i', ifs', a⟩ := g'
    have e : a = 0 := h' _ q
    subst e
    simp [bind_assoc]
    first | done | rfl, fun _ _ _ _ _ _ => rfl, fun _ _ _ _ _ => rfl, fun _ _ _ _ => rfl, fun _ _ _ _ _ _ => rfl, fun _ _ _ _ _ => rfl⟩
section
variable {prog : Program} {w : World} {A : Around} {R : Result → Shared → Prop} {s : Shared} {e : Expr} {gs : List Comprehension} {emit : Value → Env → Sem Unit} {t i : Expr} {ifs : List Expr} {j : Nat} {it acc : Value} {env : Env}
/-- a clause's loop -/
theorem loopC (ce : CmpE e gs emit) (h : gs[j]? = some ⟨t, i, ifs, 0⟩) (h' : ∀ g', gs[j + 1]? = some g' → g'.is_async = 0) (I : Nat → Shared → Prop) (N : Value → Shared → Prop) (hN : N = notedBy (model prog w) A env fun e s' => R (.error e) s')
    (turn : ∀ n s, I n s → wpAny (model prog w) A (pyNext it) (fun r s1 => match r with
      | none => R (.ok .next) s1
      | some v => wpAny (model prog w) A (letOwnedTupleGo t it v) (fun _ s2 => wpAny (model prog w) A (assign t env v) (fun _ s3 => wpAny (model prog w) A (testsC ifs env) (fun ok s4 =>
        if ok = true then wpAny (model prog w) A (restC e gs emit j acc env) (fun _ s5 => ∃ m, m < n ∧ I m s5) N s4 else ∃ m, m < n ∧ I m s4) N s3) N s2) N s1) N s)
    (n : Nat) (hI : I n s) : codeAny (model prog w) A (.compLoop e j it acc env) R s := by
  subst hN
  refine codeAny_loop (ce.quiL _ _ _ _) I (fun n s q => ?_) n hI
  rw [ce.undL, ce.denL]
  refine wpAny_noted ?_
  rw [ce.turn h h']
  refine wpAny_bind (wpAny_standAt (wpAny_bind (wpAny_mono (turn n s q) (fun r s1 q1 => ?_) fun _ _ z => z)))
  cases r with
  | none => exact wpAny_pure q1
  | some v =>
    refine wpAny_bind (wpAny_mono q1 (fun _ s2 q2 => wpAny_bind (wpAny_mono q2 (fun _ s3 q3 => wpAny_bind (wpAny_mono q3 (fun ok s4 q4 => ?_) fun _ _ z => z)) fun _ _ z => z)) fun _ _ z => z)
    cases ok with
    | false => exact wpAny_pure ⟨rfl, q4⟩
    | true => exact wpAny_bind (wpAny_mono q4 (fun _ s5 q5 => wpAny_pure ⟨rfl, q5⟩) fun _ _ z => z)
/-- a clause's start -/
theorem startC (ce : CmpE e gs emit) (h : gs[j]? = some ⟨t, i, ifs, 0⟩) (h0 : codeAny (model prog w) A (.compLoop e j it acc env) R s)
    (h1 : wpAny (model prog w) A (pyIter it) (fun it' s' => codeAny (model prog w) A (.compLoop e j it' acc env) R s') (notedBy (model prog w) A env fun x s' => R (.error x) s') s) :
    codeAny (model prog w) A (.compStart e j it acc env) R s := by
  refine codeAny_of_tree ?_
  rw [ce.undS, ce.denS]
  refine wpAny_notedAt ?_
  have hc : (clausesOf e)[j]? = some ⟨t, i, ifs, 0⟩ := by rw [ce.cl]; exact h
  unfold compStart
  rw [hc]
  show wpAny _ _ (ask >>= _) _ _ s
  refine wpAny_bind (wpAny_askSetting (wpAny_ite ?_))
  split
  · first
      | exact wpAny_bind (wpAny_pure (wpAny_pure ⟨rfl, h0⟩))
      | exact wpAny_pure ⟨rfl, h0⟩
  · first
      | exact wpAny_bind (wpAny_rule (wpAny_bind (wpAny_standAt (wpAny_bind (wpAny_mono h1 (fun it' s' z => wpAny_pure ⟨rfl, z⟩) fun _ _ x => x)))))
      | (refine wpAny_bind (wpAny_rule ?_)
         show wpAny _ _ (standAt i.pos >>= _) _ _ s
         exact wpAny_bind (wpAny_standAt (wpAny_bind (wpAny_mono h1 (fun it' s' z => wpAny_pure ⟨rfl, z⟩) fun _ _ x => x))))
end
end BB
namespace BB
open PySem PySem.Spec PyProof.Rows L2
abbrev TRs := Addr → L2.St → Hp → (Hp → Prop) → Prop
/-- what is behind the tests of the j-th clause runs; vs: the names that the deeper clauses store -/
structure PRs (X : Cx) (e : Expr) (gs : List Comprehension) (emit : Value → Env → Sem Unit) (j : Nat) (vs : List Nat) (T : TRs) : Prop where
  run : ∀ (D : Addr) (pins : List (Addr × Obj)) (s : Shared) (σ : L2.St) (H : Hp) (Nx : Hp → Prop), L2.Inv X pins σ H s → T D σ H Nx →
    wpAny (model X.prog X.w) X.A (restC e gs emit j (.ref D) X.env) (fun _ s' => ∃ H', L2.Inv X pins (wipe σ vs) H' s' ∧ Nx H') (fun _ _ => False) s
def tEl (te : TE) : TRs := fun D σ H Nx => te σ H fun y H' => ∃ acc, H' D = some (.lst acc) ∧ acc.length < sizeLine ∧ Nx (upd H' D (.lst (acc ++ [y])))
def tCl (wi : TI) (g : TG) (tt : TT) (vs : List Nat) (T : TRs) : TRs := fun D σ H Nx => wi σ H fun J H1 => ∃ W : Nat → Nat → Hp → Prop, (∃ m, W 0 m H1) ∧ ∀ i m H2, W i m H2 →
  (J.stop i H2 ∧ Nx H2) ∨ (J.go i H2 ∧ ∃ Nx1 : Hp → Prop, (∀ H', Nx1 H' → ∃ m', m' < m ∧ W (i + 1) m' H') ∧ ∀ x H', J.yld i H2 x H' → g x (wipe σ vs) H' fun σ2 H3 => wipe σ2 vs = wipe σ vs ∧ tt σ2 H3 fun b H4 => if b = true then T D σ2 H4 Nx1 else Nx1 H4)
section
variable {X : Cx} {e : Expr} {gs : List Comprehension} {emit : Value → Env → Sem Unit} {tg iter : Expr} {ifs : List Expr} {j : Nat}
/-- what an item gives -/
def PEm (X : Cx) (emit : Value → Env → Sem Unit) (T : TRs) : Prop := ∀ (D : Addr) (pins : List (Addr × Obj)) (s : Shared) (σ : L2.St) (H : Hp) (Nx : Hp → Prop), L2.Inv X pins σ H s → T D σ H Nx →
  wpAny (model X.prog X.w) X.A (emit (.ref D) X.env) (fun _ s' => ∃ H', L2.Inv X pins σ H' s' ∧ Nx H') (fun _ _ => False) s
theorem pem_list {elt : Expr} {te : TE} (hxe : X.xe = fun _ _ => False) (he : PE X elt te) : PEm X (emitL elt) (tEl te) := fun D pins s σ H Nx I h => by
  have q := he.run pins s σ H _ I h
  rw [hxe] at q
  refine wpAny_bind (thnF q fun u s1 ⟨y, H1, I1, r1, acc, hD, hz, nx⟩ => ?_)
  exact wpAny_bind (app_ok I1 hD hz r1 fun s2 I2 => wpAny_pure ⟨_, I2, nx⟩)
theorem prs_last {T : TRs} (hl : gs[j + 1]? = none) (he : PEm X emit T) : PRs X e gs emit j [] T := ⟨fun D pins s σ H Nx I h => by
  have q : restC e gs emit j (.ref D) X.env = emit (.ref D) X.env := by
    unfold restC
    rw [hl]
  rw [q]
  exact he D pins s σ H Nx I h⟩
theorem prs_step (ce : CmpE e gs emit) {wi : TI} {g : TG} {tt : TT} {T : TRs} {vs vs' : List Nat} (hc : X.calm = true) (hxe : X.xe = fun _ _ => False) (hg : gs[j + 1]? = some ⟨tg, iter, ifs, 0⟩) (h' : ∀ g', gs[j + 1 + 1]? = some g' → g'.is_async = 0)
    (hi : PI X tg iter wi) (pg : PG X tg g) (pt : PTs X ifs tt) (hs : ∀ x, foldedSetIterable iter X.env x = pure x) (hR : PRs X e gs emit (j + 1) vs' T) (hv : ∀ i ∈ vs', i ∈ vs) : PRs X e gs emit j vs (tCl wi g tt vs T) := ⟨fun D pins s σ H Nx I h => by
  have er : restC e gs emit j (.ref D) X.env = (eval iter X.env >>= fun x => standAt iter.pos >>= fun _ => foldedSetIterable iter X.env x >>= fun x => holding [x] (pyIter x) >>= fun it => runOwn (.compStart e (j + 1) it (.ref D) X.env) X.env >>= fun _ => pure ()) := by
    unfold restC
    rw [hg]
    rfl
  rw [er]
  have q := hi.run pins s σ H _ I h
  rw [hxe] at q
  refine wpAny_bind (thnF q fun xv s1 h1 => wpAny_bind (wpAny_standAt (wpAny_bind (wpAny_of_eq (hs xv) (wpAny_bind (wpAny_holding (thnF h1 fun itv s2 h2 => ?_)))))))
  obtain ⟨it, fp, tn, J, H2, e1, I2, T2, st2, f2, W, ⟨m0, w0⟩, turn⟩ := h2
  subst e1
  have stat : ∀ {H' : Hp}, (∀ b ∈ fp, H' b = none) → ∀ b ∈ fp, FpOk X pins H' b := fun hn b hb => ⟨hn b hb, (f2 b hb).2⟩
  have lp : codeAny (model X.prog X.w) X.A (.compLoop e (j + 1) (.ref it) (.ref D) X.env) (fun r s' => match r with
      | .ok _ => ∃ H', L2.Inv X pins (wipe σ vs) H' s' ∧ Nx H'
      | .error _ => False) s2 := by
    refine loopC ce hg h' (fun k s' => ∃ i H', L2.Inv X pins (wipe σ vs) H' s' ∧ tn i s'.heap ∧ (∀ b ∈ fp, H' b = none) ∧ W i k H') _ rfl ?_ m0 ⟨0, H2, I2.weak (wipe_length _ _) (fun _ _ z => (wipe_some z).1), st2, fun b hb => (f2 b hb).1, w0⟩
    rintro k s3 ⟨i, H3, I3, st3, n3, w3⟩
    rcases turn i k H3 w3 with ⟨stop, nx⟩ | ⟨go, Nx1, hNx1, step⟩
    · refine thnF (T2.done X rfl rfl rfl hc i _ s3 _ H3 (fun _ _ => False) I3 (stat n3) st3 stop) fun r s4 ⟨hr, I4⟩ => ?_
      subst hr
      exact ⟨H3, I4, nx⟩
    · refine thnF (T2.item X rfl rfl rfl hc i _ s3 _ H3 (fun _ _ => False) I3 (stat n3) st3 go) fun r s4 ⟨u, hr, h4⟩ => ?_
      subst hr
      refine thnF h4 fun _ s5 ⟨x, H5, I5, r5, y5, st5, n5⟩ => ?_
      have I5' := I5.pinned (stat n5) (T2.obj _ _ st5)
      have qg := pg.run _ s5 _ H5 x u _ I5' r5 (step x H5 y5)
      rw [hxe] at qg
      refine thnF qg fun _ s6 ⟨σ6, H6, I6, hw6, q6⟩ => ?_
      have qt := pt.run _ s6 σ6 H6 _ I6 q6
      rw [hxe] at qt
      refine thnF qt fun b s7 ⟨H7, I7, q7⟩ => ?_
      have pin' : ∀ {s' : Shared} {σ' : L2.St} {H' : Hp}, L2.Inv X (pins ++ pinsAt fp s5.heap) σ' H' s' → ∀ b ∈ fp, ∀ o, s5.heap.get? b = some o → s'.heap.get? b = some o ∧ H' b = none := fun {s' σ' H'} I' b hb o eo =>
        have z := I'.pin (b, o) (List.mem_append_right _ (List.mem_append_right _ (mem_pinsAt hb eo)))
        ⟨z.1, z.2.1⟩
      have fin : ∀ {s' : Shared} {σ' : L2.St} {H' : Hp}, L2.Inv X (pins ++ pinsAt fp s5.heap) σ' H' s' → (wipe σ vs).length = σ'.length → (∀ (i : Nat) v, (wipe σ vs)[i]? = some (some v) → σ'[i]? = some (some v)) → Nx1 H' →
          ∃ m, m < k ∧ ∃ i H', L2.Inv X pins (wipe σ vs) H' s' ∧ tn i s'.heap ∧ (∀ b ∈ fp, H' b = none) ∧ W i m H' := fun {s' σ' H'} I' hl hk nx => by
        obtain ⟨m', hm, w'⟩ := hNx1 H' nx
        refine ⟨m', hm, i + 1, H', I'.unpinned.weak hl hk, T2.keep _ _ _ st5 fun b hb o eo => (pin' I' b hb o eo).1, fun b hb => ?_, w'⟩
        obtain ⟨o, eo, _⟩ := T2.obj _ _ st5 b hb
        exact (pin' I' b hb o eo).2
      have hl6 : (wipe σ vs).length = σ6.length := by rw [← hw6, wipe_length]
      cases b with
      | false =>
        simp only [Bool.false_eq_true, if_false] at q7 ⊢
        exact fin I7 hl6 (fun i v z => by rw [← hw6] at z; exact (wipe_some z).1) q7
      | true =>
        simp only [if_true] at q7 ⊢
        refine thnF (hR.run D _ s7 σ6 H7 Nx1 I7 q7) fun _ s8 ⟨H8, I8, nx⟩ => ?_
        refine fin I8 (hl6.trans (wipe_length σ6 vs').symm) (fun i v z => ?_) nx
        rw [← hw6] at z
        obtain ⟨z1, z2⟩ := wipe_some z
        rw [wipe_out fun m => z2 (hv i m)]
        exact z1
  refine wpAny_bind (wpAny_runOwn ?_)
  rw [Around.mark_none]
  refine codeAny_mono (startC ce hg lp (T2.self X.A 0 _ _ _ st2 lp)) fun r s' hr => ?_
  cases r with
  | ok f => exact wpAny_pure hr
  | error x => exact hr.elim⟩
end
end BB
namespace BB
open PySem PySem.Spec PyProof.Rows L2
/-- [elt for tg in iter .. ..]: D the new list -/
def tCmp (o0 : Addr → HO) (wi : TI) (g : TG) (tt : TT) (vs : List Nat) (T : TRs) : TE := fun σ H Q => wi σ H fun J H1 => ∀ D, H1 D = none → (D == sysModules) = false → ∃ W : Nat → Nat → Hp → Prop, (∃ m, W 0 m (upd H1 D (o0 D))) ∧ ∀ i m H2, W i m H2 →
  (J.stop i H2 ∧ Q (.ref D) H2) ∨ (J.go i H2 ∧ ∃ Nx1 : Hp → Prop, (∀ H', Nx1 H' → ∃ m', m' < m ∧ W (i + 1) m' H') ∧ ∀ x H', J.yld i H2 x H' → g x (wipe σ vs) H' fun σ2 H3 => wipe σ2 vs = wipe σ vs ∧ tt σ2 H3 fun b H4 => if b = true then T D σ2 H4 Nx1 else Nx1 H4)
section
variable {X : Cx}
/-- how the new list or dict is made -/
structure NewO (X : Cx) (mk : Sem Value) (ob : Obj) (o0 : Addr → HO) : Prop where
  new : ∀ {A : Around} {E : Value → Shared → Prop} {s : Shared} {Q : Value → Shared → Prop}, Q (.ref s.heap.objs.size) { s with heap := s.heap.push ob } → wpAny (model X.prog X.w) A mk Q E s
  ok : ∀ {pins : List (Addr × Obj)} {σ : L2.St} {H : Hp} {s : Shared}, L2.Inv X pins σ H s → L2.Inv X pins σ (upd H s.heap.objs.size (o0 s.heap.objs.size)) { s with heap := s.heap.push ob }
theorem cmp_core {pins : List (Addr × Obj)} {s : Shared} {σ : L2.St} {H : Hp} {Q : VK} {use : Option (Value → Sem Unit)} {Qf : Value → Shared → Prop} {e tg iter : Expr} {ifs : List Expr} {rest : List Comprehension} {emit : Value → Env → Sem Unit} {mk : Sem Value} {ob : Obj} {o0 : Addr → HO} {scope : Scope} {own : List (Str × Nat)} {vs' : List Nat} {pos : Pos} {wi : TI} {g : TG} {tt : TT} {T : TRs} (cm : CmpE e (⟨tg, iter, ifs, 0⟩ :: rest) emit) (nw : NewO X mk ob o0)
    (I : L2.Inv X pins σ H s) (hc : X.calm = true) (hN : X.N.Nodup) (hi : PI X tg iter wi) (ok : BlkOk X.N X.env.scope scope own) (hv : ∀ i ∈ vs', i ∈ own.map (·.2))
    (h' : ∀ g', rest[0]? = some g' → g'.is_async = 0) (hg : ∀ (s : Shared) (H : Hp) (C : Addr) (cl : List (Str × Addr)) (fp : List Addr), PG (X.blk s H scope (compEnvC scope cl C X.env) fp) tg g)
    (ht : ∀ (s : Shared) (H : Hp) (C : Addr) (cl : List (Str × Addr)) (fp : List Addr), PTs (X.blk s H scope (compEnvC scope cl C X.env) fp) ifs tt)
    (hr : ∀ (s : Shared) (H : Hp) (C : Addr) (cl : List (Str × Addr)) (fp : List Addr), PRs (X.blk s H scope (compEnvC scope cl C X.env) fp) e (⟨tg, iter, ifs, 0⟩ :: rest) emit 0 vs' T) (hs : ∀ x, foldedSetIterable iter X.env x = pure x) (h : tCmp o0 wi g tt (own.map (·.2)) T σ H Q)
    (hRR : ∀ D C s' m H', L2.Inv X pins σ H' s' → Q (.ref D) H' → s'.heap.Ns C m → FpOk X pins H' C → compPost (model X.prog X.w) X.A X.xe use Qf (.ref D) C (.ok .next) s') :
    wpAny (model X.prog X.w) X.A (comprehension e scope X.env pos mk false (eval iter X.env) use) Qf X.xe s := by
  have free : ∀ y ∈ scope.names, y.2 = .free → ∃ c, X.env.cells.lookup y.1 = some c := fun y hy e => (ok.free y hy e).elim (fun k => I.ok.has _ (.inl k)) fun k => I.ok.has _ (.inr k)
  refine wpAny_comprehension_free (use := use) cm.cl hs (closure_ok free) ok.kind (fun y hy e => by rw [ok.uniq y hy, e]) (thn (hi.run pins s σ H _ I h) fun xv s1 hx => thn hx fun itv s2 h2 => ?_)
  obtain ⟨it, fp, tn, J, H2, e1, I2, T2, st2, f2, q⟩ := h2
  subst e1
  refine nw.new (newEnv_comp ?_)
  have Inew := nw.ok I2
  have hsys : (s2.heap.objs.size == sysModules) = false := big_ne I2 (Nat.le_refl _)
  generalize hD : s2.heap.objs.size = D at Inew hsys
  obtain ⟨W, ⟨m0, w0⟩, turn⟩ := q D (I2.hok.fresh (Nat.le_of_eq hD)) hsys
  generalize hs3 : ({ s2 with heap := s2.heap.push ob } : Shared) = s3
  have h3 : s3.heap = s2.heap.push ob := by rw [← hs3]
  have I3 : L2.Inv X pins σ (upd H2 D (o0 D)) s3 := by rw [← hs3]; exact Inew
  have f3 : ∀ b ∈ fp, FpOk X pins (upd H2 D (o0 D)) b ∧ b < s3.heap.objs.size := fun b hb => by
    obtain ⟨o, eo, _⟩ := T2.obj _ _ st2 b hb
    have hlt := Heap.lt_size eo
    refine ⟨⟨?_, (f2 b hb).2⟩, by rw [h3, Heap.size_push]; exact Nat.lt_succ_of_lt hlt⟩
    rw [upd_ne (by rw [← hD]; exact Nat.ne_of_lt hlt)]
    exact (f2 b hb).1
  have st3 : tn 0 s3.heap := T2.keep _ _ _ st2 fun b _ o z => by rw [h3]; exact Heap.get?_push_of_some _ z
  have I4 := block_start I3 ok hN f3
  have pg := hg s3 (upd H2 D (o0 D)) s3.heap.objs.size (cellsFrom (s3.heap.objs.size + 1) scope.names (cloFrom X.env.cells scope.names [])) fp
  have pt := ht s3 (upd H2 D (o0 D)) s3.heap.objs.size (cellsFrom (s3.heap.objs.size + 1) scope.names (cloFrom X.env.cells scope.names [])) fp
  have pr := hr s3 (upd H2 D (o0 D)) s3.heap.objs.size (cellsFrom (s3.heap.objs.size + 1) scope.names (cloFrom X.env.cells scope.names [])) fp
  show codeAny _ _ (.compStart e 0 (.ref it) (.ref D) (compEnvC scope (cellsFrom (s3.heap.objs.size + 1) scope.names (cloFrom X.env.cells scope.names [])) s3.heap.objs.size X.env)) (compPost (model X.prog X.w) X.A X.xe use Qf (.ref D) s3.heap.objs.size) { s3 with heap := pushCells (s3.heap.push { cls := .type "dict", data := .dict #[] }) scope.names }
  have nfp : ∀ b ∈ fp, (upd H2 D (o0 D)) b = none := fun b hb => (f3 b hb).1.1
  generalize hce : compEnvC scope (cellsFrom (s3.heap.objs.size + 1) scope.names (cloFrom X.env.cells scope.names [])) s3.heap.objs.size X.env = ce at I4 pg pt pr ⊢
  have cL : ce.locals = s3.heap.objs.size := by subst hce; rfl
  generalize hH3 : upd H2 D (o0 D) = H3 at I3 I4 pg pt pr w0 nfp f3
  generalize hs4 : ({ s3 with heap := pushCells (s3.heap.push { cls := .type "dict", data := .dict #[] }) scope.names } : Shared) = s4 at I4 ⊢
  have st4 : tn 0 s4.heap := T2.keep _ _ _ st3 fun b _ o z => by rw [← hs4]; exact pushCells_keeps _ _ _ _ (Heap.get?_push_of_some _ z)
  generalize hB : X.blk s3 H3 scope ce fp = B at I4 pg pt pr
  have stat : ∀ {σ' : L2.St} {H' : Hp} {s' : Shared}, L2.Inv B [] σ' H' s' → (∀ b ∈ fp, H' b = none) → ∀ b ∈ fp, FpOk B [] H' b := fun {σ' H' s'} I' hn b hb => by
    subst hB
    exact ⟨hn b hb, (I'.ok.exf b hb).1, I'.ok.exfs b hb, .inl hb, fun x c z => (I'.ok.exf b hb).2 x c z, fun p hp => absurd (show p ∈ ([] : List (Addr × Obj)) ++ [] from hp) (by simp)⟩
  have loop : codeAny (model X.prog X.w) X.A (.compLoop e 0 (.ref it) (.ref D) ce) (compPost (model X.prog X.w) X.A X.xe use Qf (.ref D) s3.heap.objs.size) s4 := by
    refine loopC cm rfl h' (fun n s' => ∃ i H', L2.Inv B [] (wipe σ (own.map (·.2))) H' s' ∧ tn i s'.heap ∧ (∀ b ∈ fp, H' b = none) ∧ W i n H') _ rfl ?_ m0 ⟨0, H3, I4, st4, nfp, w0⟩
    rintro n s5 ⟨i, H5, I5, st5, n5, w5⟩
    have eA : B.A = X.A := by subst hB; rfl
    have ep : B.prog = X.prog := by subst hB; rfl
    have ew : B.w = X.w := by subst hB; rfl
    have eK : B.K = X.K := by subst hB; rfl
    have ec : B.calm = true := by subst hB; exact hc
    have ee : B.env = ce := by subst hB; rfl
    have ex : B.xe = fun _ _ => False := by subst hB; rfl
    rcases turn i n H5 w5 with ⟨stop, qq⟩ | ⟨go, Nx, hNx, step⟩
    · have td := T2.done B ep ew eK ec i [] s5 _ H5 (fun _ _ => False) I5 (stat I5 n5) st5 stop
      rw [eA] at td
      refine thnF td fun r s6 ⟨hr, I6⟩ => ?_
      subst hr
      subst hB
      have I7 : L2.Inv X pins σ H5 s6 := I3.call' (ch := fp) I6.os I6.base I6.hok I6.bare fun b hb => ⟨(f3 b hb).1.2.2.2.1, (f3 b hb).1.2.1, (f3 b hb).1.2.2.2.2.1, (f3 b hb).1.2.2.2.2.2⟩
      have nC : H5 s3.heap.objs.size = none := by rw [← cL]; exact I6.free
      obtain ⟨m, hn, _⟩ := I6.loc
      have hn : s6.heap.Ns ce.locals m := hn
      rw [cL] at hn
      exact hRR D s3.heap.objs.size s6 m H5 I7 qq hn (I3.fpOk (Nat.le_refl _) nC)
    · have ti := T2.item B ep ew eK ec i [] s5 _ H5 (fun _ _ => False) I5 (stat I5 n5) st5 go
      rw [eA] at ti
      refine thnF ti fun r s6 ⟨u, hr, h6⟩ => ?_
      subst hr
      refine thnF h6 fun _ s7 ⟨x, H7, I7, r7, y7, st7, n7⟩ => ?_
      have I7' := I7.pinned (stat I7 n7) (T2.obj _ _ st7)
      have qg := pg.run _ s7 _ H7 x u _ I7' r7 (step x H7 y7)
      rw [ex, ep, ew, eA, ee] at qg
      refine thnF qg fun _ s8 ⟨σ8, H8, I8, hw8, q8⟩ => ?_
      have qt := pt.run _ s8 σ8 H8 _ I8 q8
      rw [ex, ep, ew, eA, ee] at qt
      refine thnF qt fun b s9 ⟨H9, I9, q9⟩ => ?_
      have fin : ∀ {s' : Shared} {σ' : L2.St} {H' : Hp}, L2.Inv B ([] ++ pinsAt fp s7.heap) σ' H' s' → (wipe σ (own.map (·.2))).length = σ'.length → (∀ (i : Nat) v, (wipe σ (own.map (·.2)))[i]? = some (some v) → σ'[i]? = some (some v)) → Nx H' →
          ∃ m, m < n ∧ ∃ i H', L2.Inv B [] (wipe σ (own.map (·.2))) H' s' ∧ tn i s'.heap ∧ (∀ b ∈ fp, H' b = none) ∧ W i m H' := fun {s' σ' H'} I' hl hk nx => by
        obtain ⟨m', hm, w'⟩ := hNx H' nx
        have pin' : ∀ b ∈ fp, ∀ o, s7.heap.get? b = some o → s'.heap.get? b = some o ∧ H' b = none := fun b hb o eo =>
          have z := I'.pin (b, o) (List.mem_append_right _ (List.mem_append_right _ (mem_pinsAt hb eo)))
          ⟨z.1, z.2.1⟩
        refine ⟨m', hm, i + 1, H', (I'.unpinned (pins := [])).weak hl hk, T2.keep _ _ _ st7 fun b hb o eo => (pin' b hb o eo).1, fun b hb => ?_, w'⟩
        obtain ⟨o, eo, _⟩ := T2.obj _ _ st7 b hb
        exact (pin' b hb o eo).2
      have hl8 : (wipe σ (own.map (·.2))).length = σ8.length := by rw [← hw8, wipe_length]
      cases b with
      | false =>
        simp only [Bool.false_eq_true, if_false] at q9 ⊢
        exact fin I9 hl8 (fun i v z => by rw [← hw8] at z; exact (wipe_some z).1) q9
      | true =>
        simp only [if_true] at q9 ⊢
        have qr := pr.run D _ s9 σ8 H9 Nx I9 q9
        rw [ep, ew, eA, ee] at qr
        refine thnF qr fun _ s10 ⟨H10, I10, nx⟩ => ?_
        refine fin I10 (hl8.trans (wipe_length σ8 vs').symm) (fun i v z => ?_) nx
        rw [← hw8] at z
        obtain ⟨z1, z2⟩ := wipe_some z
        rw [wipe_out fun m => z2 (hv i m)]
        exact z1
  exact startC cm rfl loop (T2.self X.A 0 _ _ _ st4 loop)
theorem pe_cmp_n {e tg iter : Expr} {ifs : List Expr} {rest : List Comprehension} {emit : Value → Env → Sem Unit} {mk : Sem Value} {ob : Obj} {o0 : Addr → HO} {scope : Scope} {own : List (Str × Nat)} {vs' : List Nat} {pos : Pos} {wi : TI} {g : TG} {tt : TT} {T : TRs} (cm : CmpE e (⟨tg, iter, ifs, 0⟩ :: rest) emit) (nw : NewO X mk ob o0)
    (hev : eval e X.env = comprehension e scope X.env pos mk false (eval iter X.env)) (hc : X.calm = true) (hN : X.N.Nodup) (hi : PI X tg iter wi) (ok : BlkOk X.N X.env.scope scope own) (hv : ∀ i ∈ vs', i ∈ own.map (·.2))
    (h' : ∀ g', rest[0]? = some g' → g'.is_async = 0) (hg : ∀ (s : Shared) (H : Hp) (C : Addr) (cl : List (Str × Addr)) (fp : List Addr), PG (X.blk s H scope (compEnvC scope cl C X.env) fp) tg g)
    (ht : ∀ (s : Shared) (H : Hp) (C : Addr) (cl : List (Str × Addr)) (fp : List Addr), PTs (X.blk s H scope (compEnvC scope cl C X.env) fp) ifs tt)
    (hr : ∀ (s : Shared) (H : Hp) (C : Addr) (cl : List (Str × Addr)) (fp : List Addr), PRs (X.blk s H scope (compEnvC scope cl C X.env) fp) e (⟨tg, iter, ifs, 0⟩ :: rest) emit 0 vs' T) (hs : ∀ x, foldedSetIterable iter X.env x = pure x) :
    PE X e (tCmp o0 wi g tt (own.map (·.2)) T) := by
  refine ⟨fun pins s σ H Q I h => ?_⟩
  rw [hev]
  refine cmp_core cm nw I hc hN hi ok hv h' hg ht hr hs h fun D C s' m H' I' q hn ⟨f0, f1, f2, f3, f4, f5⟩ => ⟨m, hn, fun h'' sb => ?_⟩
  exact ⟨.ref D, H', I'.turned (t' := s'.toks) (fun b o hb z => (sb.2 b hb).trans z) f0 f1 f3 f4 f5, rfl, q⟩
/-- name = the comprehension, on one line, the name a plain local -/
theorem ps_setCmp {i : Nat} {y : Str} {py spos : Pos} {e tg iter : Expr} {ifs : List Expr} {rest : List Comprehension} {emit : Value → Env → Sem Unit} {mk : Sem Value} {ob : Obj} {o0 : Addr → HO} {scope : Scope} {own : List (Str × Nat)} {vs' : List Nat} {pos : Pos} {wi : TI} {g : TG} {tt : TT} {T : TRs} (cm : CmpE e (⟨tg, iter, ifs, 0⟩ :: rest) emit) (nw : NewO X mk ob o0)
    (hex : exec (.Assign [.Name y py] e spos) X.env = (standAt spos >>= fun _ => comprehension e scope X.env pos mk false (eval iter X.env) (some (assign (.Name y py) X.env)) >>= fun _ => pure .next))
    (hy : X.N[i]? = some y) (hyl : X.env.scope.names.lookup y = some .local) (hc : X.calm = true) (hN : X.N.Nodup) (hi : PI X tg iter wi) (ok : BlkOk X.N X.env.scope scope own) (hv : ∀ i ∈ vs', i ∈ own.map (·.2))
    (h' : ∀ g', rest[0]? = some g' → g'.is_async = 0) (hg : ∀ (s : Shared) (H : Hp) (C : Addr) (cl : List (Str × Addr)) (fp : List Addr), PG (X.blk s H scope (compEnvC scope cl C X.env) fp) tg g)
    (ht : ∀ (s : Shared) (H : Hp) (C : Addr) (cl : List (Str × Addr)) (fp : List Addr), PTs (X.blk s H scope (compEnvC scope cl C X.env) fp) ifs tt)
    (hr : ∀ (s : Shared) (H : Hp) (C : Addr) (cl : List (Str × Addr)) (fp : List Addr), PRs (X.blk s H scope (compEnvC scope cl C X.env) fp) e (⟨tg, iter, ifs, 0⟩ :: rest) emit 0 vs' T) (hs : ∀ x, foldedSetIterable iter X.env x = pure x) :
    PS X (.Assign [.Name y py] e spos) (tAsg (tCmp o0 wi g tt (own.map (·.2)) T) (gName i)) := by
  refine ⟨fun pins s σ H P I h => ?_⟩
  rw [hex]
  have h : tCmp o0 wi g tt (own.map (·.2)) T σ H (fun x H1 => gName i x σ H1 P.nx) := h
  refine wpAny_bind (wpAny_standAt (wpAny_bind (thn (cmp_core (Qf := fun _ s' => SP X pins P .next s') cm nw I hc hN hi ok hv h' hg ht hr hs h fun L C s' m H' I' q hn f => ?_) fun _ s' hq => wpAny_pure hq)))
  show wpAny _ _ (assign (.Name y py) X.env (.ref L)) _ _ _
  refine wpAny_assign_Name (store_ok2 (v := V.ref L) I' hN hy (.inl hyl) rfl (fun s2 I2 ⟨a, sb, ha⟩ => ?_) (.inr hyl))
  obtain ⟨f0, f1, f2, f3, f4, f5⟩ := f
  have haC : C ≠ a := ha.elim (fun z => by rw [z]; exact f1) fun z e => f4 y a z e.symm
  exact ⟨m, hn.sameBut sb haC, fun h3 sb3 => ⟨_, H', I2.turned (t' := s2.toks) (fun b o hb z => (sb3.2 b hb).trans z) f0 f1 f3 f4 f5, q⟩⟩
end
end BB
set_option maxRecDepth 100000
set_option maxHeartbeats 1000000
/-! The data layer, 19: comprehensions of any number of clauses, over data. -/
namespace BB
open PySem PySem.Spec PyProof.Rows L2
/-- how a heap may grow where the cells at as, and the list that is made at E, are ours -/
structure FrD (E : Addr) (as : List Addr) (H : Hp) (as' : List Addr) (H' : Hp) : Prop where
  pre : ∃ more, as' = as ++ more ∧ ∀ a ∈ more, H a = none
  tups : ∀ b xs, H b = some (.tup xs) → H' b = some (.tup xs)
  frzs : ∀ b o u, H b = some (.frz o u) → H' b = some (.frz o u)
  keep : ∀ b o, H b = some o → b ∉ as → b ≠ E → H' b = some o
  live : ∀ b, H b ≠ none → H' b ≠ none
section
variable {E : Addr} {as as' as2 : List Addr} {H H' H2 : Hp} {G : Gd}
theorem FrD.of (f : Frm as H as' H') : FrD E as H as' H' := ⟨f.pre, f.tups, f.frzs, fun b o h hb _ => f.keep b o h hb, f.live⟩
theorem FrD.notin (f : FrD E as H as' H') (hE : H E ≠ none) (n : E ∉ as) : E ∉ as' := fun hm => by
  obtain ⟨more, e, hn⟩ := f.pre
  rw [e] at hm
  rcases List.mem_append.mp hm with hm | hm
  · exact n hm
  · exact hE (hn E hm)
theorem FrD.trans (f : FrD E as H as' H') (g : FrD E as' H' as2 H2) : FrD E as H as2 H2 := by
  obtain ⟨m1, e1, n1⟩ := f.pre
  obtain ⟨m2, e2, n2⟩ := g.pre
  refine ⟨⟨m1 ++ m2, by rw [e2, e1, List.append_assoc], fun a ha => ?_⟩, fun b xs h => g.tups b xs (f.tups b xs h), fun b o u h => g.frzs b o u (f.frzs b o u h), fun b o h hb hE => ?_, fun b h => g.live b (f.live b h)⟩
  · rcases List.mem_append.mp ha with ha | ha
    · exact n1 a ha
    · cases q : H a with
      | none => rfl
      | some o => exact absurd (n2 a ha) (f.live a (by rw [q]; exact fun z => nomatch z))
  · refine g.keep b o (f.keep b o h hb hE) ?_ hE
    rw [e1]
    intro hm
    rcases List.mem_append.mp hm with hm | hm
    · exact hb hm
    · rw [n1 b hm] at h; cases h
theorem FrD.upd {o u : HO} (h : H E = some o) (mu : Mut (some o)) : FrD E as H as (L2.upd H E u) := by
  have g : Frm [E] H [E] (L2.upd H E u) := .cell (List.mem_singleton.mpr rfl) h mu
  exact ⟨⟨[], by simp, fun _ z => nomatch z⟩, g.tups, g.frzs, fun b o e _ hE => by rw [upd_ne hE]; exact e, g.live⟩
theorem FrD.ix (fr : FrD E as H as' H') : ∀ (j : Nat) (a : Addr), as[j]? = some a → as'[j]? = some a := fun j a h => by
  obtain ⟨m, e, _⟩ := fr.pre
  rw [e, List.getElem?_append_left (List.getElem?_eq_some_iff.mp h).1]; exact h
theorem Rep.frd (fr : FrD E as H as' H') {v : V} {d : D} (r : Rep G H as v d) : Rep G H' as' v d := r.mono fr.tups fr.frzs fr.ix
theorem RepAll.frd (fr : FrD E as H as' H') {v : List V} {d : List D} (r : RepAll G H as v d) : RepAll G H' as' v d := r.mono fr.tups fr.frzs fr.ix
theorem stayE {o : HO} (f : Frm as H as' H') (hE : H E = some o) (n : E ∉ as) : H' E = some o ∧ E ∉ as' := ⟨f.keep _ _ hE n, (FrD.of (E := E) f).notin (by rw [hE]; exact fun z => nomatch z) n⟩
theorem RepSt.updE {st : List Cell} {o u : HO} (R : RepSt G H as st) (h : H E = some o) (mu : Mut (some o)) (n : E ∉ as) : RepSt G (L2.upd H E u) as st := by
  have g : FrD E as H as (L2.upd H E u) := .upd h mu
  refine ⟨R.len, R.nd, fun j c a hj ha => ?_⟩
  have hne : a ≠ E := fun z => n (by rw [← z]; exact List.mem_of_getElem? ha)
  exact (R.ok j c a hj ha).up (fun o e => by rw [upd_ne hne]; exact e) fun v d r => r.frd g
theorem RepS.frd {σ : L2.St} {ρ : DS} {st : List Cell} (R : RepS G H as σ ρ) (f : FrD E as H as' H') (r : RepSt G H' as' st) : RepS G H' as' σ ⟨ρ.sl, st⟩ :=
  ⟨R.len, fun i d h => by
    obtain ⟨v, e, q⟩ := R.slot i d h
    exact ⟨v, e, q.frd f⟩, r⟩
end
/-- what stands for what is made so far -/
structure AccK (G : Gd) {α : Type} (rel : Hp → List Addr → Addr → α → Prop) : Prop where
  mono : ∀ {H H' : Hp} {as as' : List Addr} {E : Addr} {a : α}, (∀ b xs, H b = some (.tup xs) → H' b = some (.tup xs)) → (∀ b o u, H b = some (.frz o u) → H' b = some (.frz o u)) → (∀ (j : Nat) (c : Addr), as[j]? = some c → as'[j]? = some c) → (∀ o, H E = some o → H' E = some o) → rel H as E a → rel H' as' E a
  obj : ∀ {H : Hp} {as : List Addr} {E : Addr} {a : α}, rel H as E a → ∃ o, H E = some o ∧ Mut (some o)
def relL (G : Gd) : Hp → List Addr → Addr → List D → Prop := fun H as E acc => ∃ vacc, H E = some (.lst vacc) ∧ RepAll G H as vacc acc
def relD (G : Gd) : Hp → List Addr → Addr → List D × List D → Prop := fun H as E acc => ∃ xs, H E = some (dHO G E xs) ∧ (E == sysModules) = false ∧ xs.length ≤ sizeLine ∧ RepEnts G H as acc.1 acc.2 xs
theorem accL (G : Gd) : AccK G (relL G) := ⟨fun t f ix st ⟨vacc, e, r⟩ => ⟨vacc, st _ e, r.mono t f ix⟩, fun ⟨vacc, e, r⟩ => ⟨_, e, trivial⟩⟩
theorem accD (G : Gd) : AccK G (relD G) := ⟨fun t f ix st ⟨xs, e, m, z, r⟩ => ⟨xs, st _ e, m, z, r.mono t f ix⟩, fun ⟨xs, e, m, z, r⟩ => ⟨_, e, trivial⟩⟩
/-- a clause's inside: from a state and what is made so far, what is reached -/
abbrev DC (α : Type) := DS → α → (α → List Cell → Prop) → Prop
def cEl (e : DE) : DC (List D) := fun ρ acc N => e ρ fun y ρ' => acc.length < sizeLine ∧ N (acc ++ [y]) ρ'.st
def cKv (kd vd : DE) : DC (List D × List D) := fun ρ acc N => kd ρ fun y ρ1 => vd ρ1 fun z ρ2 => isKey y ∧ acc.1.length < sizeLine ∧ N (putD acc.1 acc.2 y z) ρ2.st
def cFor {α : Type} (di : DI) (g : DG) (t : DT) (c : DC α) (vs : List Nat) : DC α := fun ρ acc N => di ρ fun xs ρ1 => ∃ W : Nat → α → List Cell → Prop, W 0 acc ρ1.st ∧
  (∀ i x acc st, xs[i]? = some x → W i acc st → g x ⟨wipeD ρ1.sl vs, st⟩ fun ρ2 => t ρ2 fun b ρ3 => if b = true then c ρ3 acc (W (i + 1)) else W (i + 1) acc ρ3.st) ∧ ∀ acc st, W xs.length acc st → N acc st
def dCmp {α : Type} (a0 : α) (di : DI) (g : DG) (t : DT) (c : DC α) (vs : List Nat) (fin : α → DS → (D → DS → Prop) → Prop) : DE := fun ρ Q => di ρ fun xs ρ1 => ∃ W : Nat → α → List Cell → Prop, W 0 a0 ρ1.st ∧
  (∀ i x acc st, xs[i]? = some x → W i acc st → g x ⟨wipeD ρ1.sl vs, st⟩ fun ρ2 => t ρ2 fun b ρ3 => if b = true then c ρ3 acc (W (i + 1)) else W (i + 1) acc ρ3.st) ∧ ∀ acc st, W xs.length acc st → fin acc ⟨ρ1.sl, st⟩ Q
def dLcN (di : DI) (g : DG) (t : DT) (c : DC (List D)) (vs : List Nat) : DE := dCmp [] di g t c vs fun acc ρ Q => Q (.lst acc) ρ
/-- a dict that is a new cell -/
def dDcN (di : DI) (g : DG) (t : DT) (c : DC (List D × List D)) (vs : List Nat) : DE := dCmp ([], []) di g t c vs fun acc ρ Q => Q (.ptr ρ.st.length) ⟨ρ.sl, ρ.st ++ [.dct acc.1 acc.2]⟩
def liftC (G : Gd) {α : Type} (rel : Hp → List Addr → Addr → α → Prop) (c : DC α) : TRs := fun E σ H Nx => ∃ as ρ acc N, RepS G H as σ ρ ∧ rel H as E acc ∧ E ∉ as ∧ c ρ acc N ∧
  ∀ acc' st' as' H', N acc' st' → RepSt G H' as' st' → rel H' as' E acc' → FrD E as H as' H' → Nx H'
theorem prs_con {X : Cx} {e : Expr} {gs : List Comprehension} {emit : Value → Env → Sem Unit} {j : Nat} {vs : List Nat} {T T' : TRs} (h : PRs X e gs emit j vs T) (c : ∀ E σ H Nx, T' E σ H Nx → T E σ H Nx) : PRs X e gs emit j vs T' :=
  ⟨fun E pins s σ H Nx I q => h.run E pins s σ H Nx I (c E σ H Nx q)⟩
theorem lift_el {G : Gd} {e : DE} {E : Addr} {σ : L2.St} {H : Hp} {Nx : Hp → Prop} (h : liftC G (relL G) (cEl e) E σ H Nx) : tEl (liftE G e) E σ H Nx := by
  obtain ⟨as, ρ, acc, N, R, ⟨vacc, hE, ra⟩, n, w, k⟩ := h
  refine ⟨as, ρ, _, R, w, fun y ρ1 as1 v H1 ⟨hz, w1⟩ R1 r1 f1 => ?_⟩
  obtain ⟨e1, n1⟩ := stayE f1 hE n
  have g : FrD E as1 H1 as1 (upd H1 E (.lst (vacc ++ [v]))) := .upd e1 trivial
  exact ⟨vacc, e1, by rw [ra.length]; exact hz, k (acc ++ [y]) ρ1.st as1 _ w1 (R1.st.updE e1 trivial n1) ⟨_, upd_same, ((ra.frm f1).frd g).append (.cons (r1.frd g) .nil)⟩ ((FrD.of f1).trans g)⟩
section
variable {G : Gd} {α : Type} {rel : Hp → List Addr → Addr → α → Prop} {di : DI} {g : DG} {t : DT} {c : DC α} {vs : List Nat} {σ : L2.St}
/-- the turns of a loop over the items: from what is reached at the loop's start -/
theorem turns_of (A : AccK G rel) {E : Addr} {as0 : List Addr} {H0 : Hp} {ρ1 : DS} {xs : List D} {J : It} (R1 : RepS G H0 as0 σ ρ1) (n0 : E ∉ as0) {a0 : α} (r0 : rel H0 as0 E a0) {Hy : Hp} {asy : List Addr} (Y : Yld G J asy Hy xs) (hy1 : ∀ b xs, Hy b = some (.tup xs) → H0 b = some (.tup xs)) (hy2 : ∀ b o u, Hy b = some (.frz o u) → H0 b = some (.frz o u)) (hy3 : ∀ (j : Nat) (c : Addr), asy[j]? = some c → as0[j]? = some c)
    {W : Nat → α → List Cell → Prop} (w0 : W 0 a0 ρ1.st) (turn : ∀ i x acc st, xs[i]? = some x → W i acc st → g x ⟨wipeD ρ1.sl vs, st⟩ fun ρ2 => t ρ2 fun b ρ3 => if b = true then c ρ3 acc (W (i + 1)) else W (i + 1) acc ρ3.st)
    {F : Hp → Prop} (fin : ∀ acc st as' H', W xs.length acc st → RepSt G H' as' st → rel H' as' E acc → FrD E as0 H0 as' H' → E ∉ as' → F H') :
    ∃ U : Nat → Nat → Hp → Prop, (∃ m, U 0 m H0) ∧ ∀ i m H2, U i m H2 → (J.stop i H2 ∧ F H2) ∨ (J.go i H2 ∧ ∃ Nx1 : Hp → Prop, (∀ H', Nx1 H' → ∃ m', m' < m ∧ U (i + 1) m' H') ∧ ∀ x H', J.yld i H2 x H' → liftG G vs g x (wipe σ vs) H' fun σ2 H3 => wipe σ2 vs = wipe σ vs ∧ liftT G t σ2 H3 fun b H4 => if b = true then liftC G rel c E σ2 H4 Nx1 else Nx1 H4) := by
  obtain ⟨o0, e0, _⟩ := A.obj r0
  refine ⟨fun i m H' => m = xs.length - i ∧ i ≤ xs.length ∧ ∃ as' acc st, rel H' as' E acc ∧ RepSt G H' as' st ∧ FrD E as0 H0 as' H' ∧ W i acc st, ⟨xs.length, by simp, Nat.zero_le _, as0, a0, ρ1.st, r0, R1.st, .of (.refl _ _), w0⟩, ?_⟩
  rintro i m H2 ⟨rfl, hi, as2, acc, st, ra2, R2, f2, w2⟩
  have n2 : E ∉ as2 := f2.notin (by rw [e0]; exact fun z => nomatch z) n0
  have y1 : ∀ b xs, Hy b = some (.tup xs) → H2 b = some (.tup xs) := fun b xs z => f2.tups b xs (hy1 b xs z)
  have y2 : ∀ b o u, Hy b = some (.frz o u) → H2 b = some (.frz o u) := fun b o u z => f2.frzs b o u (hy2 b o u z)
  by_cases hlt : i < xs.length
  · obtain ⟨go, yl⟩ := Y.item H2 y1 y2 i xs[i] (by simp [hlt])
    refine .inr ⟨go, fun H' => ∃ as' acc st, rel H' as' E acc ∧ RepSt G H' as' st ∧ FrD E as0 H0 as' H' ∧ W (i + 1) acc st, fun H' q => ⟨xs.length - (i + 1), by omega, rfl, hlt, q⟩, fun x H3 y => ?_⟩
    obtain ⟨r3, s3⟩ := yl x H3 y
    have f03 : FrD E as0 H0 as2 H3 := f2.trans (.of (.same s3))
    have R3 : RepS G H3 as2 σ ⟨ρ1.sl, st⟩ := R1.frd f03 (R2.same s3)
    refine ⟨as2, ⟨wipeD ρ1.sl vs, st⟩, xs[i], _, R3.wipe vs, r3.mono (fun _ _ z => z) (fun _ _ _ z => z) (fun j c z => f2.ix j c (hy3 j c z)), turn i xs[i] acc st (by simp [hlt]) w2, fun ρ4 as4 σ4 H4 w4 R4 f4 e4 => ?_⟩
    refine ⟨by rw [e4]; exact wipe_wipe σ vs, as4, ρ4, _, R4, w4, fun b ρ5 as5 H5 w5 R5 f5 => ?_⟩
    have f35 := f4.trans f5
    obtain ⟨o2, e2, _⟩ := A.obj ra2
    obtain ⟨e5, n5⟩ := stayE f35 (s3 _ _ e2) n2
    have ra5 : rel H5 as5 E acc := A.mono f35.tups f35.frzs f35.ix (fun o z => f35.keep _ _ z n2) (A.mono (fun _ _ z => s3 _ _ z) (fun _ _ _ z => s3 _ _ z) (fun _ _ z => z) (fun o z => s3 _ _ z) ra2)
    have f05 : FrD E as0 H0 as5 H5 := f03.trans (.of f35)
    cases b with
    | false =>
      rw [if_neg Bool.false_ne_true] at w5
      exact iteF ⟨as5, acc, _, ra5, R5.st, f05, w5⟩
    | true =>
      rw [if_pos rfl] at w5
      exact iteT ⟨as5, ρ5, acc, _, R5, ra5, n5, w5, fun acc' st' as' H' p Rs ra' fr => ⟨as', acc', st', ra', Rs, f05.trans fr, p⟩⟩
  · have e : i = xs.length := by omega
    subst e
    exact .inl ⟨Y.stop H2 y1 y2 _ (Nat.le_refl _), fin acc st as2 H2 w2 R2 ra2 f2 n2⟩
theorem lift_cl (A : AccK G rel) {E : Addr} {H : Hp} {Nx : Hp → Prop} (h : liftC G rel (cFor di g t c vs) E σ H Nx) : tCl (liftI G di) (liftG G vs g) (liftT G t) vs (liftC G rel c) E σ H Nx := by
  obtain ⟨as, ρ, acc0, N, R, ra, n, w, k⟩ := h
  refine ⟨as, ρ, _, R, w, fun xs ρ1 as1 H1 J w1 R1 f1 Y => ?_⟩
  obtain ⟨W, w0, turn, fin⟩ := w1
  obtain ⟨o, e, _⟩ := A.obj ra
  obtain ⟨e1, n1⟩ := stayE f1 e n
  exact turns_of A R1 n1 (A.mono f1.tups f1.frzs f1.ix (fun o z => f1.keep _ _ z n) ra) Y (fun _ _ z => z) (fun _ _ _ z => z) (fun _ _ z => z) w0 turn fun acc st as' H' q Rs ra' fr _ => k acc st as' H' (fin acc st q) Rs ra' ((FrD.of f1).trans fr)
theorem lift_cmp (A : AccK G rel) {o0 : Addr → HO} {a0 : α} {H : Hp} {Q Q' : VK} {fn : α → DS → (D → DS → Prop) → Prop} (h0 : ∀ {E : Addr} {as : List Addr} {H : Hp}, (E == sysModules) = false → rel (upd H E (o0 E)) as E a0)
    (hf : ∀ {E : Addr} {as1 as2 : List Addr} {H1 H2 : Hp} {acc : α} {ρ : DS} {P : D → DS → Prop} , H1 E = none → E ∉ as2 → Frm as1 H1 as2 H2 → RepS G H2 as2 σ ρ → rel H2 as2 E acc → fn acc ρ P → (∀ x ρ' as' v H', P x ρ' → RepS G H' as' σ ρ' → Rep G H' as' v x → Frm as1 H1 as' H' → Q v H') → Q' (.ref E) H2)
    (h : liftE G (dCmp a0 di g t c vs fn) σ H Q) : tCmp o0 (liftI G di) (liftG G vs g) (liftT G t) vs (liftC G rel c) σ H Q' := by
  obtain ⟨as, ρ, P, R, w, k⟩ := h
  refine ⟨as, ρ, _, R, w, fun xs ρ1 as1 H1 J w1 R1 f1 Y E hE0 hs => ?_⟩
  obtain ⟨W, w0, turn, fin⟩ := w1
  have s0 : Same H1 (upd H1 E (o0 E)) := Same.upd hE0
  have n1 : E ∉ as1 := R1.st.notin hE0
  have R1' := R1.same s0
  refine turns_of A R1' n1 (h0 hs) Y (fun _ _ z => s0 _ _ z) (fun _ _ _ z => s0 _ _ z) (fun _ _ z => z) w0 turn fun acc st as' H' q Rs ra' fr n' => ?_
  have f2 : Frm as1 H1 as' H' := by
    obtain ⟨more, em, hm⟩ := fr.pre
    refine ⟨⟨more, em, fun a ha => ?_⟩, fun b xs hb => fr.tups b xs (s0 _ _ hb), fun b o u hb => fr.frzs b o u (s0 _ _ hb), fun b o hb hn => fr.keep b o (s0 _ _ hb) hn (fun z => by rw [z, hE0] at hb; cases hb), fun b hb => fr.live b fun z => hb ?_⟩
    · have := hm a ha
      by_cases hae : a = E
      · rw [hae]; exact hE0
      · rw [upd_ne hae] at this; exact this
    · by_cases hbe : b = E
      · rw [hbe]; exact hE0
      · rw [upd_ne hbe] at z; exact z
  refine hf hE0 n' f2 (R1'.frd fr Rs) ra' (fin acc st q) fun x ρ' as' v H' p R' r f => k x ρ' as' v H' p R' r (f1.trans f)
end
/-- the list that is made is frozen -/
theorem fin_list {G : Gd} {σ : L2.St} {Q Q' : VK} (hQ : ∀ v H', frzQ Q v H' → Q' v H') {E : Addr} {as1 as2 : List Addr} {H1 H2 : Hp} {acc : List D} {ρ : DS} {P : D → DS → Prop} (hE0 : H1 E = none) (n2 : E ∉ as2) (f2 : Frm as1 H1 as2 H2) (R2 : RepS G H2 as2 σ ρ) (ra : relL G H2 as2 E acc) (p : P (.lst acc) ρ)
    (k : ∀ x ρ' as' v H', P x ρ' → RepS G H' as' σ ρ' → Rep G H' as' v x → Frm as1 H1 as' H' → Q v H') : Q' (.ref E) H2 := by
  obtain ⟨vacc, hd2, ra2⟩ := ra
  refine hQ _ _ ⟨E, vacc, rfl, hd2, fun o => ?_⟩
  have gz : Frm [E] H2 [E] (upd H2 E (.frz o (.lst vacc))) := .cell (List.mem_singleton.mpr rfl) hd2 trivial
  have fz : Frm as1 H1 as2 (upd H2 E (.frz o (.lst vacc))) := by
    refine ⟨f2.pre, fun b xs hb => gz.tups b xs (f2.tups b xs hb), fun b o u hb => gz.frzs b o u (f2.frzs b o u hb), fun b o hb hn => ?_, fun b hb => gz.live b (f2.live b hb)⟩
    have hne : b ≠ E := fun z => by rw [z, hE0] at hb; cases hb
    rw [upd_ne hne]
    exact f2.keep b o hb hn
  refine k _ _ as2 _ _ p ?_ (.lst ⟨o, upd_same⟩ (ra2.mono gz.tups gz.frzs (fun _ _ z => z))) fz
  exact R2.frd (.upd hd2 trivial) (R2.st.updE hd2 trivial n2)
/-- the dict that is made is a new cell -/
theorem fin_dict {G : Gd} {σ : L2.St} {Q : VK} {E : Addr} {as1 as2 : List Addr} {H1 H2 : Hp} {acc : List D × List D} {ρ : DS} {P : D → DS → Prop} (hE0 : H1 E = none) (n2 : E ∉ as2) (f2 : Frm as1 H1 as2 H2) (R2 : RepS G H2 as2 σ ρ) (ra : relD G H2 as2 E acc) (p : P (.ptr ρ.st.length) ⟨ρ.sl, ρ.st ++ [.dct acc.1 acc.2]⟩)
    (k : ∀ x ρ' as' v H', P x ρ' → RepS G H' as' σ ρ' → Rep G H' as' v x → Frm as1 H1 as' H' → Q v H') : Q (.ref E) H2 := by
  obtain ⟨xs, hd2, hm, hz, ra2⟩ := ra
  have ix : ∀ (j : Nat) (c : Addr), as2[j]? = some c → (as2 ++ [E])[j]? = some c := fun j c h => by
    rw [List.getElem?_append_left (List.getElem?_eq_some_iff.mp h).1]; exact h
  have up : ∀ v d, Rep G H2 as2 v d → Rep G H2 (as2 ++ [E]) v d := fun v d r => r.mono (fun _ _ z => z) (fun _ _ _ z => z) ix
  have hl : (as2 ++ [E])[ρ.st.length]? = some E := by rw [← R2.st.len, List.getElem?_append_right (Nat.le_refl _)]; simp
  refine k _ _ (as2 ++ [E]) _ H2 p ⟨R2.len, fun i d hd => ?_, ?_⟩ (.ptr hl) ?_
  · obtain ⟨v, e, r⟩ := R2.slot i d hd
    exact ⟨v, e, up _ _ r⟩
  · refine ⟨by simp [R2.st.len], ?_, fun j c a hj ha => ?_⟩
    · exact List.nodup_append.mpr ⟨R2.st.nd, by simp, fun a ha b hb e => n2 (by rw [List.mem_singleton.mp hb] at e; rw [← e]; exact ha)⟩
    · by_cases hj' : j < ρ.st.length
      · rw [List.getElem?_append_left hj'] at hj
        rw [List.getElem?_append_left (by rw [R2.st.len]; exact hj')] at ha
        exact (R2.st.ok j c a hj ha).up (fun o e => e) up
      · have e : j = ρ.st.length := by
          have := (List.getElem?_eq_some_iff.mp hj).1
          simp at this
          omega
        subst e
        rw [hl] at ha
        cases ha
        have : c = .dct acc.1 acc.2 := by
          rw [List.getElem?_append_right (Nat.le_refl _)] at hj
          simpa using hj.symm
        subst this
        exact ⟨xs, hd2, hm, hz, ra2.up up⟩
  · obtain ⟨more, em, hmo⟩ := f2.pre
    refine ⟨⟨more ++ [E], by rw [em, List.append_assoc], fun a ha => ?_⟩, f2.tups, f2.frzs, f2.keep, f2.live⟩
    rcases List.mem_append.mp ha with ha | ha
    · exact hmo a ha
    · rw [List.mem_singleton.mp ha]; exact hE0
section
variable {X : Cx} {e elt tg iter : Expr} {gs : List Comprehension} {emit : Value → Env → Sem Unit} {ifs : List Expr} {scope : Scope} {pos : Pos} {j : Nat}
theorem newL : NewO X (newList []) { cls := .type "list", data := .seq ([] : List Value).toArray } fun _ => .lst [] := ⟨fun h => wpAny_newObj_type h (by show 0 ≤ sizeLine; decide), fun {pins σ H s} I =>
  I.laid (t' := s.toks) (fun b o z => Heap.get?_push_of_some _ z) (Nat.le_refl _) ⟨Nat.zero_le _, [], 0, .nil, Heap.get?_push_size _ rfl⟩⟩
theorem newD : NewO X newDict { cls := .type "dict", data := .dict #[] } fun a => dHO (gd X) a [] := ⟨fun h => wpAny_newObj_type h, fun {pins σ H s} I =>
  I.laid (t' := s.toks) (fun b o z => Heap.get?_push_of_some _ z) (Nat.le_refl _) (dictOfH_ok (Heap.DictOfH.new s.heap))⟩
theorem pem_kv {kx vx : Expr} {kd vd : DE} (hu : X.A.units + 64 < cLine) (hxe : X.xe = fun _ _ => False) (hk : DEx X kx kd) (hv : DEx X vx vd) : PEm X (emitD kx vx) (liftC (gd X) (relD (gd X)) (cKv kd vd)) := fun E pins s σ H Nx I ⟨as, ρ, acc, N, R, ⟨xs, hE, hm, hz, ra⟩, n, w, k⟩ => by
  have q := PE.run hk pins s σ H (fun x H1 => ∃ as1 ρ1 dk, RepS (gd X) H1 as1 σ ρ1 ∧ Rep (gd X) H1 as1 x dk ∧ Frm as H as1 H1 ∧ vd ρ1 fun z ρ2 => isKey dk ∧ acc.1.length < sizeLine ∧ N (putD acc.1 acc.2 dk z) ρ2.st) I ⟨as, ρ, _, R, w, fun x ρ1 as1 v1 H1 w1 R1 r1 f1 => ⟨as1, ρ1, x, R1, r1, f1, w1⟩⟩
  rw [hxe] at q
  unfold emitD
  refine wpAny_bind (thnF q fun u s1 ⟨x, H1, I1, rx, as1, ρ1, dk, R1, r1, f1, w1⟩ => ?_)
  have q2 := PE.run hv pins s1 σ H1 (fun y H2 => ∃ as2 ρ2 dz, RepS (gd X) H2 as2 σ ρ2 ∧ Rep (gd X) H2 as2 y dz ∧ Frm as1 H1 as2 H2 ∧ isKey dk ∧ acc.1.length < sizeLine ∧ N (putD acc.1 acc.2 dk dz) ρ2.st) I1 ⟨as1, ρ1, _, R1, w1, fun y ρ2 as2 v2 H2 w2 R2 r2 f2 => ⟨as2, ρ2, y, R2, r2, f2, w2⟩⟩
  rw [hxe] at q2
  refine wpAny_bind (wpAny_holding (thnF q2 fun u2 s2 ⟨y, H2, I2, ry, as2, ρ2, dz, R2, r2, f2, hkey, hl, p⟩ => ?_))
  obtain ⟨e2, n2⟩ := stayE (f1.trans f2) hE n
  have rk := r1.frm f2
  obtain ⟨b, nn, ex, hn, hdp⟩ := key_rep rk hkey
  subst ex
  cases rx
  have ra2 := ra.frm (f1.trans f2)
  have dd := Inv_dict I2 (.inl e2) ra2
  have hnd : (xs.map (·.1)).Nodup := dd.nodup
  refine wpAny_bind (wpAny_standAt (wpAny_holding (wpAny_dictSet_heap (knd := nestedKind X.prog X.w) (hsz := hz) (by show X.A.units + 8 < cLine; omega) ⟨nested_of I2 rk hn rfl, hdp⟩ dd fun h' dd' hs => ?_)))
  have g : FrD E as2 H2 as2 (upd H2 E (dHO (gd X) E (storedH xs nn b u2))) := .upd e2 trivial
  have hz' : (storedH xs nn b u2).length ≤ sizeLine := by
    have h1 := storedH_length xs nn b u2
    have h2 := (ra2.length).1
    omega
  obtain ⟨ob, _, _, hob, _⟩ := id dd'
  refine ⟨_, I2.write (x := E) (e := E) (t' := s2.toks + (nestedKind X.prog X.w).draws nn) (o := dHO (gd X) E (storedH xs nn b u2)) (by rw [e2]; trivial) (.inl rfl) (fun c q hc z => (hs.2 c hc).trans z) ⟨_, hob⟩ (dictOfH_ok dd'), ?_⟩
  have frE : ∀ {v d}, Rep (gd X) H2 as2 v d → Rep (gd X) (upd H2 E (dHO (gd X) E (storedH xs nn b u2))) as2 v d := fun r => r.frd g
  exact k _ ρ2.st as2 _ p (R2.st.updE e2 trivial n2) ⟨_, upd_same, hm, hz', ents_put (ra2.mono g.tups g.frzs g.ix) hnd hn hdp (frE rk) ry (frE r2)⟩ ((FrD.of (f1.trans f2)).trans g)
/-- the clauses behind the first -/
def DCx (X : Cx) {α : Type} (rel : Hp → List Addr → Addr → α → Prop) (e : Expr) (gs : List Comprehension) (emit : Value → Env → Sem Unit) (j : Nat) (vs : List Nat) (c : DC α) : Prop := PRs X e gs emit j vs (liftC (gd X) rel c)
theorem dc_el {d : DE} (hxe : X.xe = fun _ _ => False) (hl : gs[j + 1]? = none) (he : DEx X elt d) : DCx X (relL (gd X)) e gs (emitL elt) j [] (cEl d) := prs_con (prs_last hl (pem_list hxe he)) fun _ _ _ _ h => lift_el h
theorem dc_kv {kx vx : Expr} {kd vd : DE} (hu : X.A.units + 64 < cLine) (hxe : X.xe = fun _ _ => False) (hl : gs[j + 1]? = none) (hk : DEx X kx kd) (hv : DEx X vx vd) : DCx X (relD (gd X)) e gs (emitD kx vx) j [] (cKv kd vd) := prs_last hl (pem_kv hu hxe hk hv)
theorem dc_for {α : Type} {rel : Hp → List Addr → Addr → α → Prop} (A : AccK (gd X) rel) (cm : CmpE e gs emit) {di : DI} {g : DG} {t : DT} {c : DC α} {vs vs' : List Nat} (hc : X.calm = true) (hxe : X.xe = fun _ _ => False) (hg : gs[j + 1]? = some ⟨tg, iter, ifs, 0⟩) (h' : ∀ g', gs[j + 1 + 1]? = some g' → g'.is_async = 0)
    (hi : DIx X tg iter di) (pg : DGx X vs tg g) (pt : DTsx X ifs t) (hR : DCx X rel e gs emit (j + 1) vs' c) (hv : ∀ i ∈ vs', i ∈ vs) (hs : ∀ x, foldedSetIterable iter X.env x = pure x := by intro _; rfl) : DCx X rel e gs emit j vs (cFor di g t c vs) :=
  prs_con (prs_step cm hc hxe hg h' hi pg pt hs hR hv) fun _ _ _ _ h => lift_cl A h
theorem de_lcN {rest : List Comprehension} {own : List (Str × Nat)} {vs' : List Nat} {di : DI} {g : DG} {t : DT} {c : DC (List D)} (hc : X.calm = true) (hN : X.N.Nodup) (hi : DIx X tg iter di) (ok : BlkOk X.N X.env.scope scope own) (hv : ∀ i ∈ vs', i ∈ own.map (·.2))
    (h' : ∀ g', rest[0]? = some g' → g'.is_async = 0) (hg : ∀ (s : Shared) (H : Hp) (C : Addr) (cl : List (Str × Addr)) (fp : List Addr), DGx (X.blk s H scope (compEnvC scope cl C X.env) fp) (own.map (·.2)) tg g)
    (ht : ∀ (s : Shared) (H : Hp) (C : Addr) (cl : List (Str × Addr)) (fp : List Addr), DTsx (X.blk s H scope (compEnvC scope cl C X.env) fp) ifs t)
    (hr : ∀ (s : Shared) (H : Hp) (C : Addr) (cl : List (Str × Addr)) (fp : List Addr), DCx (X.blk s H scope (compEnvC scope cl C X.env) fp) (relL (gd X)) (.ListComp elt (⟨tg, iter, ifs, 0⟩ :: rest) scope pos) (⟨tg, iter, ifs, 0⟩ :: rest) (emitL elt) 0 vs' c) (hs : ∀ x, foldedSetIterable iter X.env x = pure x := by intro _; rfl) :
    DEx X (.ListComp elt (⟨tg, iter, ifs, 0⟩ :: rest) scope pos) (dLcN di g t c (own.map (·.2))) :=
  pe_con' (pe_frz (pe_cmp_n (pos := firstIterPos (⟨tg, iter, ifs, 0⟩ :: rest) pos) (wi := liftI (gd X) di) (g := liftG (gd X) (own.map fun p : Str × Nat => p.2) g) (tt := liftT (gd X) t) (T := liftC (gd X) (relL (gd X)) c) cmpL newL (eval_ListComp ..) hc hN hi ok hv h' hg ht hr hs)) fun σ H Q h =>
    lift_cmp (accL _) (fun _ => ⟨[], upd_same, .nil⟩) (fun a b f R r p k => fin_list (fun _ _ z => z) a b f R r p k) h
theorem de_dcN {kx vx : Expr} {rest : List Comprehension} {own : List (Str × Nat)} {vs' : List Nat} {di : DI} {g : DG} {t : DT} {c : DC (List D × List D)} (hc : X.calm = true) (hN : X.N.Nodup) (hi : DIx X tg iter di) (ok : BlkOk X.N X.env.scope scope own) (hv : ∀ i ∈ vs', i ∈ own.map (·.2))
    (h' : ∀ g', rest[0]? = some g' → g'.is_async = 0) (hg : ∀ (s : Shared) (H : Hp) (C : Addr) (cl : List (Str × Addr)) (fp : List Addr), DGx (X.blk s H scope (compEnvC scope cl C X.env) fp) (own.map (·.2)) tg g)
    (ht : ∀ (s : Shared) (H : Hp) (C : Addr) (cl : List (Str × Addr)) (fp : List Addr), DTsx (X.blk s H scope (compEnvC scope cl C X.env) fp) ifs t)
    (hr : ∀ (s : Shared) (H : Hp) (C : Addr) (cl : List (Str × Addr)) (fp : List Addr), DCx (X.blk s H scope (compEnvC scope cl C X.env) fp) (relD (gd X)) (.DictComp kx vx (⟨tg, iter, ifs, 0⟩ :: rest) scope pos) (⟨tg, iter, ifs, 0⟩ :: rest) (emitD kx vx) 0 vs' c) (hs : ∀ x, foldedSetIterable iter X.env x = pure x := by intro _; rfl) :
    DEx X (.DictComp kx vx (⟨tg, iter, ifs, 0⟩ :: rest) scope pos) (dDcN di g t c (own.map (·.2))) :=
  pe_con' (pe_cmp_n (pos := firstIterPos (⟨tg, iter, ifs, 0⟩ :: rest) pos) (wi := liftI (gd X) di) (g := liftG (gd X) (own.map fun p : Str × Nat => p.2) g) (tt := liftT (gd X) t) (T := liftC (gd X) (relD (gd X)) c) cmpD newD (arm_eval_DictComp ..) hc hN hi ok hv h' hg ht hr hs) fun σ H Q h =>
    lift_cmp (accD _) (fun hs => ⟨[], upd_same, hs, Nat.zero_le _, .nil⟩) (fun a b f R r p k => fin_dict a b f R r p k) h
end
/-! ### the dict that is made is frozen; name = a comprehension, on one line -/
def frzG (Q : VK) : VK := fun v H' => ∃ a o, v = .ref a ∧ H' a = some o ∧ Mut (some o) ∧ ∀ od, Q v (upd H' a (.frz od o))
theorem fin_dictF {G : Gd} {σ : L2.St} {Q Q' : VK} (hQ : ∀ v H', frzG Q v H' → Q' v H') {E : Addr} {as1 as2 : List Addr} {H1 H2 : Hp} {acc : List D × List D} {ρ : DS} {P : D → DS → Prop} (hE0 : H1 E = none) (n2 : E ∉ as2) (f2 : Frm as1 H1 as2 H2) (R2 : RepS G H2 as2 σ ρ) (ra : relD G H2 as2 E acc) (p : P (.dct acc.1 acc.2) ρ)
    (k : ∀ x ρ' as' v H', P x ρ' → RepS G H' as' σ ρ' → Rep G H' as' v x → Frm as1 H1 as' H' → Q v H') : Q' (.ref E) H2 := by
  obtain ⟨xs, hd2, hm, hz, ra2⟩ := ra
  refine hQ _ _ ⟨E, _, rfl, hd2, trivial, fun o => ?_⟩
  have gz : Frm [E] H2 [E] (upd H2 E (.frz o (dHO G E xs))) := .cell (List.mem_singleton.mpr rfl) hd2 trivial
  have fz : Frm as1 H1 as2 (upd H2 E (.frz o (dHO G E xs))) := by
    refine ⟨f2.pre, fun b xs hb => gz.tups b xs (f2.tups b xs hb), fun b o u hb => gz.frzs b o u (f2.frzs b o u hb), fun b o hb hn => ?_, fun b hb => gz.live b (f2.live b hb)⟩
    have hne : b ≠ E := fun z => by rw [z, hE0] at hb; cases hb
    rw [upd_ne hne]
    exact f2.keep b o hb hn
  refine k _ _ as2 _ _ p ?_ (.dct upd_same hm hz (ra2.mono gz.tups gz.frzs (fun _ _ z => z))) fz
  exact R2.frd (.upd hd2 trivial) (R2.st.updE hd2 trivial n2)
def dDcF (di : DI) (g : DG) (t : DT) (c : DC (List D × List D)) (vs : List Nat) : DE := dCmp ([], []) di g t c vs fun acc ρ Q => Q (.dct acc.1 acc.2) ρ
section
variable {X : Cx} {elt tg iter kx vx : Expr} {ifs : List Expr} {scope : Scope} {pos py spos : Pos}
theorem pe_frzG {e : Expr} {t : TE} (h : PE X e t) : PE X e (fun σ H Q => t σ H (frzG Q)) := ⟨fun pins s σ H Q I q => thn (h.run pins s σ H _ I q) fun _ _ z => EP.lock z⟩
theorem ps_frzG {st : Stmt} {t : TS} (h : PS X st t) : PS X st (fun E σ H => t { E with nx := fun σ' H' => ∃ a o, H' a = some o ∧ Mut (some o) ∧ ∀ od, E.nx σ' (upd H' a (.frz od o)) } σ H) := ⟨fun pins s σ H E I q =>
  thn (h.run pins s σ H _ I q) fun f s' z => by
    cases f with
    | next =>
      obtain ⟨σ', H', I', a, o, e, mu, k⟩ := z
      obtain ⟨od, I2⟩ := I'.lock e mu
      exact ⟨σ', _, I2, k od⟩
    | brk => exact z
    | cont => exact z
    | ret u => exact z⟩
theorem used_list {gs : List Comprehension} {env : Env} {y : Str} (hsw : swapsWith (.ListComp elt gs scope pos) (some (.Name y py)) spos.line env = pure true) (hf : firstAsync gs = false) : exec (.Assign [.Name y py] (.ListComp elt gs scope pos) spos) env =
    (standAt spos >>= fun _ => comprehension (.ListComp elt gs scope pos) scope env (firstIterPos gs pos) (newList []) false (firstIter gs env) (some (assign (.Name y py) env)) >>= fun _ => pure .next) := by
  rw [exec_Assign_Name_used _ _ _ _ hsw]
  unfold evalThenUse
  simp only [hf, bind_assoc, pure_bind]
theorem used_dict {gs : List Comprehension} {env : Env} {y : Str} (hsw : swapsWith (.DictComp kx vx gs scope pos) (some (.Name y py)) spos.line env = pure true) (hf : firstAsync gs = false) : exec (.Assign [.Name y py] (.DictComp kx vx gs scope pos) spos) env =
    (standAt spos >>= fun _ => comprehension (.DictComp kx vx gs scope pos) scope env (firstIterPos gs pos) newDict false (firstIter gs env) (some (assign (.Name y py) env)) >>= fun _ => pure .next) := by
  rw [exec_Assign_Name_used _ _ _ _ hsw]
  unfold evalThenUse
  simp only [hf, bind_assoc, pure_bind]
section
variable {rest : List Comprehension} {own : List (Str × Nat)} {vs' : List Nat} {di : DI} {g : DG} {t : DT}
theorem dp_setLcN {i : Nat} {y : Str} {c : DC (List D)} (hc : X.calm = true) (hN : X.N.Nodup) (hy : X.N[i]? = some y) (hyl : X.env.scope.names.lookup y = some .local) (hsw : swapsWith (.ListComp elt (⟨tg, iter, ifs, 0⟩ :: rest) scope pos) (some (.Name y py)) spos.line X.env = pure true)
    (hi : DIx X tg iter di) (ok : BlkOk X.N X.env.scope scope own) (hv : ∀ i ∈ vs', i ∈ own.map (·.2))
    (h' : ∀ g', rest[0]? = some g' → g'.is_async = 0) (hg : ∀ (s : Shared) (H : Hp) (C : Addr) (cl : List (Str × Addr)) (fp : List Addr), DGx (X.blk s H scope (compEnvC scope cl C X.env) fp) (own.map (·.2)) tg g)
    (ht : ∀ (s : Shared) (H : Hp) (C : Addr) (cl : List (Str × Addr)) (fp : List Addr), DTsx (X.blk s H scope (compEnvC scope cl C X.env) fp) ifs t)
    (hr : ∀ (s : Shared) (H : Hp) (C : Addr) (cl : List (Str × Addr)) (fp : List Addr), DCx (X.blk s H scope (compEnvC scope cl C X.env) fp) (relL (gd X)) (.ListComp elt (⟨tg, iter, ifs, 0⟩ :: rest) scope pos) (⟨tg, iter, ifs, 0⟩ :: rest) (emitL elt) 0 vs' c) (hs : ∀ x, foldedSetIterable iter X.env x = pure x := by intro _; rfl) :
    DPx X (.Assign [.Name y py] (.ListComp elt (⟨tg, iter, ifs, 0⟩ :: rest) scope pos) spos) (dAsg (dLcN di g t c (own.map (·.2))) (gSet i)) :=
  ps_con' (ps_frzG (ps_setCmp (pos := firstIterPos (⟨tg, iter, ifs, 0⟩ :: rest) pos) (wi := liftI (gd X) di) (g := liftG (gd X) (own.map fun p : Str × Nat => p.2) g) (tt := liftT (gd X) t) (T := liftC (gd X) (relL (gd X)) c) cmpL newL (used_list hsw rfl) hy hyl hc hN hi ok hv h' hg ht hr hs)) fun E σ H ⟨as, ρ, P, R, w, k⟩ => by
    have h2 : liftE (gd X) (dLcN di g t c (own.map (·.2))) σ H (fun v H' => E.nx (σ.set i (some v)) H') := ⟨as, ρ, _, R, w, fun x ρ1 as1 v1 H1 w1 R1 r1 f1 => k.nx _ as1 _ H1 w1 (R1.setSlot i r1) f1⟩
    exact lift_cmp (accL _) (fun _ => ⟨[], upd_same, .nil⟩) (fun a b f R r p k => fin_list (Q' := fun v H' => ∃ a o, H' a = some o ∧ Mut (some o) ∧ ∀ od, E.nx (σ.set i (some v)) (upd H' a (.frz od o))) (fun v H' ⟨a, xs, ev, eh, z⟩ => ⟨a, .lst xs, eh, trivial, z⟩) a b f R r p k) h2
theorem dp_setDcN {i : Nat} {y : Str} {c : DC (List D × List D)} (hc : X.calm = true) (hN : X.N.Nodup) (hy : X.N[i]? = some y) (hyl : X.env.scope.names.lookup y = some .local) (hsw : swapsWith (.DictComp kx vx (⟨tg, iter, ifs, 0⟩ :: rest) scope pos) (some (.Name y py)) spos.line X.env = pure true)
    (hi : DIx X tg iter di) (ok : BlkOk X.N X.env.scope scope own) (hv : ∀ i ∈ vs', i ∈ own.map (·.2))
    (h' : ∀ g', rest[0]? = some g' → g'.is_async = 0) (hg : ∀ (s : Shared) (H : Hp) (C : Addr) (cl : List (Str × Addr)) (fp : List Addr), DGx (X.blk s H scope (compEnvC scope cl C X.env) fp) (own.map (·.2)) tg g)
    (ht : ∀ (s : Shared) (H : Hp) (C : Addr) (cl : List (Str × Addr)) (fp : List Addr), DTsx (X.blk s H scope (compEnvC scope cl C X.env) fp) ifs t)
    (hr : ∀ (s : Shared) (H : Hp) (C : Addr) (cl : List (Str × Addr)) (fp : List Addr), DCx (X.blk s H scope (compEnvC scope cl C X.env) fp) (relD (gd X)) (.DictComp kx vx (⟨tg, iter, ifs, 0⟩ :: rest) scope pos) (⟨tg, iter, ifs, 0⟩ :: rest) (emitD kx vx) 0 vs' c) (hs : ∀ x, foldedSetIterable iter X.env x = pure x := by intro _; rfl) :
    DPx X (.Assign [.Name y py] (.DictComp kx vx (⟨tg, iter, ifs, 0⟩ :: rest) scope pos) spos) (dAsg (dDcN di g t c (own.map (·.2))) (gSet i)) :=
  ps_con' ((ps_setCmp (pos := firstIterPos (⟨tg, iter, ifs, 0⟩ :: rest) pos) (wi := liftI (gd X) di) (g := liftG (gd X) (own.map fun p : Str × Nat => p.2) g) (tt := liftT (gd X) t) (T := liftC (gd X) (relD (gd X)) c) cmpD newD (used_dict hsw rfl) hy hyl hc hN hi ok hv h' hg ht hr hs)) fun E σ H ⟨as, ρ, P, R, w, k⟩ => by
    have h2 : liftE (gd X) (dDcN di g t c (own.map (·.2))) σ H (fun v H' => E.nx (σ.set i (some v)) H') := ⟨as, ρ, _, R, w, fun x ρ1 as1 v1 H1 w1 R1 r1 f1 => k.nx _ as1 _ H1 w1 (R1.setSlot i r1) f1⟩
    exact lift_cmp (accD _) (fun hs => ⟨[], upd_same, hs, Nat.zero_le _, .nil⟩) (fun a b f R r p k => fin_dict (Q := fun v H' => E.nx (σ.set i (some v)) H') a b f R r p k) h2
theorem dp_setDcF {i : Nat} {y : Str} {c : DC (List D × List D)} (hc : X.calm = true) (hN : X.N.Nodup) (hy : X.N[i]? = some y) (hyl : X.env.scope.names.lookup y = some .local) (hsw : swapsWith (.DictComp kx vx (⟨tg, iter, ifs, 0⟩ :: rest) scope pos) (some (.Name y py)) spos.line X.env = pure true)
    (hi : DIx X tg iter di) (ok : BlkOk X.N X.env.scope scope own) (hv : ∀ i ∈ vs', i ∈ own.map (·.2))
    (h' : ∀ g', rest[0]? = some g' → g'.is_async = 0) (hg : ∀ (s : Shared) (H : Hp) (C : Addr) (cl : List (Str × Addr)) (fp : List Addr), DGx (X.blk s H scope (compEnvC scope cl C X.env) fp) (own.map (·.2)) tg g)
    (ht : ∀ (s : Shared) (H : Hp) (C : Addr) (cl : List (Str × Addr)) (fp : List Addr), DTsx (X.blk s H scope (compEnvC scope cl C X.env) fp) ifs t)
    (hr : ∀ (s : Shared) (H : Hp) (C : Addr) (cl : List (Str × Addr)) (fp : List Addr), DCx (X.blk s H scope (compEnvC scope cl C X.env) fp) (relD (gd X)) (.DictComp kx vx (⟨tg, iter, ifs, 0⟩ :: rest) scope pos) (⟨tg, iter, ifs, 0⟩ :: rest) (emitD kx vx) 0 vs' c) (hs : ∀ x, foldedSetIterable iter X.env x = pure x := by intro _; rfl) :
    DPx X (.Assign [.Name y py] (.DictComp kx vx (⟨tg, iter, ifs, 0⟩ :: rest) scope pos) spos) (dAsg (dDcF di g t c (own.map (·.2))) (gSet i)) :=
  ps_con' (ps_frzG (ps_setCmp (pos := firstIterPos (⟨tg, iter, ifs, 0⟩ :: rest) pos) (wi := liftI (gd X) di) (g := liftG (gd X) (own.map fun p : Str × Nat => p.2) g) (tt := liftT (gd X) t) (T := liftC (gd X) (relD (gd X)) c) cmpD newD (used_dict hsw rfl) hy hyl hc hN hi ok hv h' hg ht hr hs)) fun E σ H ⟨as, ρ, P, R, w, k⟩ => by
    have h2 : liftE (gd X) (dDcF di g t c (own.map (·.2))) σ H (fun v H' => E.nx (σ.set i (some v)) H') := ⟨as, ρ, _, R, w, fun x ρ1 as1 v1 H1 w1 R1 r1 f1 => k.nx _ as1 _ H1 w1 (R1.setSlot i r1) f1⟩
    exact lift_cmp (accD _) (fun hs => ⟨[], upd_same, hs, Nat.zero_le _, .nil⟩) (fun a b f R r p k => fin_dictF (Q := fun v H' => E.nx (σ.set i (some v)) H') (Q' := fun v H' => ∃ a o, H' a = some o ∧ Mut (some o) ∧ ∀ od, E.nx (σ.set i (some v)) (upd H' a (.frz od o))) (fun v H' ⟨a, xs, ev, eh, mu, z⟩ => ⟨a, xs, eh, mu, by subst ev; exact z⟩) a b f R r p k) h2
end
end
end BB
set_option maxRecDepth 100000
set_option maxHeartbeats 1000000
/-! The data layer, 20: dict(a list of pairs). -/
namespace BB
open PySem PySem.Spec PyProof.Rows L2
def prsD (es : List (D × D)) : List D × List D := es.foldl (fun q p => putD q.1 q.2 p.1 p.2) ([], [])
def wDictPr : WPn := fun ds st Q => ∃ es : List (D × D), ds = [.lst (es.map fun p => .tup [p.1, p.2])] ∧ (∀ p ∈ es, isKey p.1) ∧ Q (.dct (prsD es).1 (prsD es).2)
/-- a pair of the heap, its key, its value -/
structure PrAt (G : Gd) (H : Hp) (as : List Addr) (h : Heap) (T : Value) (p : D × D) (x : NestedKey × Addr × Value) : Prop where
  tup : ∃ a, T = .ref a ∧ IsTup h a #[.ref x.2.1, x.2.2]
  key : nkey p.1 = some x.1
  dep : x.1.depth ≤ 8
  nis : NestedIs h x.1 (.ref x.2.1)
  rk : Rep G H as (.ref x.2.1) p.1
  rv : ∃ v, RelV v x.2.2 ∧ Rep G H as v p.2
inductive Lay3 (R : Value → D × D → NestedKey × Addr × Value → Prop) : List Value → List (D × D) → Ents → Prop
  | nil : Lay3 R [] [] []
  | cons {T p x Ts ps xs} : R T p x → Lay3 R Ts ps xs → Lay3 R (T :: Ts) (p :: ps) (x :: xs)
section
variable {R : Value → D × D → NestedKey × Addr × Value → Prop}
theorem Lay3.len : ∀ {Ts : List Value} {ps : List (D × D)} {xs : Ents}, Lay3 R Ts ps xs → Ts.length = xs.length ∧ ps.length = xs.length
  | _, _, _, .nil => ⟨rfl, rfl⟩
  | _, _, _, .cons _ r => by
    obtain ⟨a, b⟩ := Lay3.len r
    exact ⟨by simp [a], by simp [b]⟩
theorem Lay3.get : ∀ {Ts : List Value} {ps : List (D × D)} {xs : Ents} {i : Nat} {x : NestedKey × Addr × Value}, Lay3 R Ts ps xs → xs[i]? = some x → ∃ T p, Ts[i]? = some T ∧ ps[i]? = some p ∧ R T p x
  | _, _, _, _, _, .nil, h => by simp at h
  | _, _, _, 0, _, .cons q _, h => by
    have h := Option.some.inj h
    subst h
    exact ⟨_, _, rfl, rfl, q⟩
  | _, _, _, i + 1, _, .cons _ r, h => Lay3.get (i := i) r (by simpa using h)
theorem Lay3.mem : ∀ {Ts : List Value} {ps : List (D × D)} {xs : Ents} {x : NestedKey × Addr × Value}, Lay3 R Ts ps xs → x ∈ xs → ∃ T p, R T p x
  | _, _, _, x, .cons (x := y) q r, h => by
    rcases List.mem_cons.mp h with h | h
    · subst h; exact ⟨_, _, q⟩
    · exact Lay3.mem r h
end
theorem storedH_nd {xs : Ents} {n : NestedKey} {a : Addr} {u : Value} (h : (xs.map (·.1)).Nodup) : ((storedH xs n a u).map (·.1)).Nodup := by
  cases q : atKey xs n with
  | some p =>
    rw [storedH_old q, List.map_map]
    have e : ((fun x : NestedKey × Addr × Value => x.1) ∘ putAt n u) = fun x => x.1 := by
      funext x
      simp only [Function.comp_apply, putAt]
      split <;> rfl
    rw [e]
    exact h
  | none =>
    rw [storedH_new q, List.map_append]
    refine List.nodup_append.mpr ⟨h, by simp, fun y hy z hz e => ?_⟩
    have hz : z = n := by simpa using hz
    subst hz
    subst e
    obtain ⟨x, hx, ex⟩ := List.mem_map.mp hy
    have : ∀ l : Ents, x ∈ l → (atKey l y).isSome = true := fun l hl => by
      unfold atKey
      simp only [Option.isSome_map]
      rw [List.find?_isSome]
      exact ⟨x, hl, by simpa using ex⟩
    have z := this xs hx
    rw [q] at z
    exact absurd z (by simp)
section
variable {X : Cx} {pins : List (Addr × Obj)} {σ : L2.St} {H : Hp} {s : Shared} {as : List Addr}
theorem prs_lay (I : L2.Inv X pins σ H s) : ∀ (es : List (D × D)) (xs : List V) (its : List Value), RepAll (gd X) H as xs (es.map fun p => .tup [p.1, p.2]) → Vals xs its → (∀ p ∈ es, isKey p.1) → ∃ ps : Ents, Lay3 (PrAt (gd X) H as s.heap) its es ps
  | [], _, _, .nil, r, _ => by cases r; exact ⟨[], .nil⟩
  | p :: es, _, _, .cons q qs, r, hk => by
    cases r with
    | cons r1 rr =>
      obtain ⟨ps, L⟩ := prs_lay I es _ _ qs rr fun p hp => hk p (List.mem_cons_of_mem _ hp)
      obtain ⟨a, ys, rfl, hq, r2⟩ := rep_tup q
      cases r1
      obtain ⟨ts, rt, pt, _⟩ := I.tuple hq
      cases r2 with
      | cons k1 k2 =>
        cases k2 with
        | cons k2 k3 =>
          cases k3
          cases rt with
          | cons t1 t2 =>
            cases t2 with
            | cons t2 t3 =>
              cases t3
              obtain ⟨b, n, eb, hn, hd⟩ := key_rep k1 (hk p List.mem_cons_self)
              subst eb
              cases t1
              exact ⟨(n, b, _) :: ps, .cons ⟨⟨a, rfl, pt⟩, hn, hd, nested_of I k1 hn rfl, k1, _, t2, k2⟩ L⟩
theorem prs_rep {G : Gd} {h : Heap} : ∀ {its : List Value} {es : List (D × D)} {ps : Ents} (q : List D × List D) (xs : Ents), Lay3 (PrAt G H as h) its es ps → RepEnts G H as q.1 q.2 xs → (xs.map (·.1)).Nodup → RepEnts G H as (es.foldl (fun q p => putD q.1 q.2 p.1 p.2) q).1 (es.foldl (fun q p => putD q.1 q.2 p.1 p.2) q).2 (storedAllH xs ps)
  | _, _, _, q, xs, .nil, r, _ => r
  | _, _, _, q, xs, .cons (x := x) a L, r, hn => by
    obtain ⟨v, rv, rd⟩ := a.rv
    exact prs_rep (putD q.1 q.2 _ _) (storedH xs x.1 x.2.1 x.2.2) L (ents_put r hn a.key a.dep a.rk rv rd) (storedH_nd hn)
theorem rb_dictPr (hu : X.A.units + 64 < cLine) (hc : X.calm = true) : CallR X (.type "dict") (liftN (gd X) wDictPr) := by
  intro pins s σ H xs us Q I rv h
  obtain ⟨as, st, ds, P, R, r, ⟨es, ed, hk, w⟩, k⟩ := h
  subst ed
  cases r with
  | cons r rr =>
    cases rr
    cases r with
    | lst hl ra =>
      rename_i a xs
      rw [Vals.ref1 rv]
      obtain ⟨its, ri, pl, hz⟩ := I.list hl.sq
      obtain ⟨ps, L⟩ := prs_lay I es xs its ra ri hk
      have hlen := L.len
      have hps : ps.length ≤ sizeLine := by rw [← hlen.1, ← ri.length]; exact hz
      have at_ : ∀ (i : Nat) (x : NestedKey × Addr × Value), ps[i]? = some x → ∃ c, its[i]? = some (.ref c) ∧ IsTup s.heap c #[.ref x.2.1, x.2.2] := fun i x e => by
        obtain ⟨T, p, e1, _, q⟩ := L.get e
        obtain ⟨c, rfl, ht⟩ := q.tup
        exact ⟨c, e1, ht⟩
      let Ts : Nat → Addr := fun j => match its[j]? with
        | some (.ref c) => c
        | _ => 0
      have ok : PlainSeq "list" s.heap a its.toArray ∧ PairItems s.heap its.toArray Ts (ps.map fun x => (Value.ref x.2.1, x.2.2)) := by
        refine ⟨?_, ?_, fun j kk vv e => ?_⟩
        · obtain ⟨o, n, e, c1, c2, c3⟩ := pl
          exact ⟨o, n, e, by first | exact c1 | exact c2 | exact c3, by first | exact c2 | exact c3 | exact c1, by first | exact c3 | exact c1 | exact c2⟩
        · simp [hlen.1]
        · rw [List.getElem?_map] at e
          cases q : ps[j]? with
          | none => rw [q] at e; cases e
          | some x =>
            rw [q] at e
            have e := Option.some.inj e
            obtain ⟨e1, e2⟩ := Prod.mk.inj e
            subst e1; subst e2
            obtain ⟨c, e1, ht⟩ := at_ j x q
            have eT : Ts j = c := by simp only [Ts, e1]
            refine ⟨by rw [eT]; simpa using e1, .inl ?_⟩
            rw [eT]
            obtain ⟨o, e3, e4, n, e5⟩ := ht
            exact ⟨o, e3, e4, n, e5⟩
      refine call_dict_pairsH (knd := nestedKind X.prog X.w) (ps := ps) (PairArg.list a its.toArray Ts _) (I.ok.hd hc) (by show X.A.units + 1 + 1 + 8 < cLine; omega) ok ⟨by simp, fun i kk vv e => ?_⟩ (fun h' kp x hx => ?_) (by rw [List.length_map]; exact hps) fun h' tk d' kp => ?_
      · have e : (ps.map fun x => (Value.ref x.2.1, x.2.2))[i]? = some (kk, vv) := e
        rw [List.getElem?_map] at e
        cases q : ps[i]? with
        | none => rw [q] at e; cases e
        | some x =>
          rw [q] at e
          obtain ⟨e1, e2⟩ := Prod.mk.inj (Option.some.inj e)
          subst e1; subst e2
          exact ⟨x.1, x.2.1, rfl, rfl⟩
      · obtain ⟨T, p, q⟩ := L.mem hx
        have q2 : (nestedKind X.prog X.w).is s.heap x.1 x.2.1 := ⟨q.nis, q.dep⟩
        exact nestedKind_stays.stays (fun b ob _ _ e _ => kp b ob (Nat.ne_of_lt (Heap.lt_size e)) (fun z => nomatch z) e) q2
      · have hf := I.hok.fresh (Nat.le_refl s.heap.objs.size)
        have kp' : ∀ b ob, s.heap.get? b = some ob → h'.get? b = some ob := fun b ob e => kp b ob (fun z => nomatch z) e
        have re := prs_rep ([], []) [] L .nil List.nodup_nil
        refine EP.frzD ⟨.ref s.heap.objs.size, upd H s.heap.objs.size (dHO (gd X) s.heap.objs.size (storedAllH [] ps)), I.laid (t' := tk) kp' (Nat.le_refl _) (dictOfH_ok d'), rfl, s.heap.objs.size, _, rfl, upd_same, fun o => ?_⟩
        rw [upd_upd]
        have sm : Same H (upd H s.heap.objs.size (.frz o (dHO (gd X) s.heap.objs.size (storedAllH [] ps)))) := Same.upd hf
        refine k _ _ _ w sm (.dct upd_same (big_ne I (Nat.le_refl _)) ?_ (re.frm (.same sm)))
        have := storedAllH_length ps []
        simp at this
        omega
end
end BB
set_option maxRecDepth 100000
set_option maxHeartbeats 1000000
/-! The data layer, 21: a def that calls another one first of all, which may let an exception out. -/
namespace BB
open PySem PySem.Spec PyProof.Rows L2
theorem hasX_pass {P : Program} {w : World} {K : PySem.W.Frag} {mg : Str → Option Value} {base : Heap} {x qual g : Str} {st : Stmt} {f : Addr} {fd : FuncData} {N ps : List Str} {k k0 np np0 : Nat} {ks ks0 : List Str} {dv dv0 : List Int} {C : Addr} {fs : List (Str × V)} {F F0 : FSX} (hF : Fun K x qual st f fd) (S : FnScope N ps (defScope st)) (hn : ps.length = np + ks.length) (hmg : mg x = some (.ref f))
    (hb : ∃ ds, Vals (dv.map V.int) ds ∧ Binds K fd ps ds) (hk : KBn K fd ps np ks (fun us ws => us ++ ws) (fun vs zs => vs ++ zs)) (h0 : HasX P w K mg base g k0 np0 ks0 dv0 C fs F0) {e : Expr} {es : List Expr} {p1 p2 pos : Pos} {rest : List Stmt} (hst : defBody st = .Expr (.Call (.Name g p1) (e :: es) [] p2) pos :: rest) (da : DA) (d : DP)
    (hbody : ∀ (cdv : Value) (A : Around) (outer : List Env) (s : Shared) (H : Hp) (E : XK), Room k (A.deeper (envOfC qual (defScope st) s.heap.objs.size f cdv)) →
      Room k0 (A.deeper (envOfC qual (defScope st) s.heap.objs.size f cdv)) ∧ Gl (cxOf (L2.CX P w) P w K mg base N qual (defScope st) f cdv A outer s H E) g ∧ DAx (cxOf (L2.CX P w) P w K mg base N qual (defScope st) f cdv A outer s H E) (e :: es) da ∧ DPs (cxOf (L2.CX P w) P w K mg base N qual (defScope st) f cdv A outer s H E).nox rest d)
    (hgd : (g == ("__debug__" : Str)) = false)
    (he : ∀ (env : Env), starEach (e :: es) env = (false, eval e env) :: starEach es env) (hpl : ∀ (env : Env), (backTo p2 (starEach es env)).any (·.1) = false) (hsw : ∀ (env : Env), swapsWith (.Call (.Name g p1) (e :: es) [] p2) none pos.line env = pure false)
    (spec : ∀ ds st' Q Z, ds.length = np + ks.length → WfS st' → F ds st' Q Z → da ⟨startD N.length ds, st'⟩ fun xs ρ => (xs ++ dv0.map D.int).length = np0 + ks0.length ∧ F0 (xs ++ dv0.map D.int) ρ.st (fun _ st => d (endsOf st'.length Q) ⟨ρ.sl, st⟩) Z) : HasX P w K mg base x (k + 1) np ks dv C fs F := by
  obtain ⟨f0, fd0, ps0, hl0, hF0, hm0, hk0, ⟨ds0, hd0, hb0⟩, _⟩ := h0.ex
  refine ⟨f, fd, ps, hn, hF.okX S (fun vs H Q E ⟨as, st', ds, Q', Z, hl, R, r, _⟩ => (r.length.trans hl).trans hn.symm) (fun cdv A outer s H vs Q E hr h => ?_), hmg, hF.kp, hb, hk⟩
  obtain ⟨as, st', ds, Q', Z, hl, R, r, hp, kk, kz⟩ := h
  obtain ⟨hr0, hg, h1, h3⟩ := hbody cdv A outer s H E hr
  rw [hst]
  refine ⟨_, pss_cons (ps_expr (pe_callSD hF0 hr0 hg hm0 hk0 hb0 hd0 (fun σ => passAt (takes_of rfl rfl rfl rfl) σ) h1 hgd (he _) (hpl _)) (hsw _)) (PSs.nox h3), ?_⟩
  refine ⟨as, ⟨startD N.length ds, st'⟩, _, ⟨(rep_start r).1, (rep_start r).2, R⟩, spec ds st' Q' Z hl R.wf hp, fun xs ρ1 as1 us H1 ⟨w0, w1⟩ R1 r1 f1 => ?_⟩
  refine ⟨as1, ρ1.st, xs ++ dv0.map D.int, _, Z, w0, R1.st, r1.append (repI dv0), w1, fun z st2 as2 v H2 pz R2 rz f2 => ?_, fun st2 as2 dd H2 z R2 f2 hx => kz st2 as2 dd H2 z R2 (f1.trans f2) hx⟩
  have f02 := f1.trans f2
  refine ⟨as2, ⟨ρ1.sl, st2⟩, endsOf st'.length Q', R1.store f2 R2, pz, ?_⟩
  refine ⟨fun ρ3 as3 σ3 H3 p R3 fr3 => ?_, fun z st3 as3 v H3 p R3 rv fr3 => ret_lift R p R3 rv (f02.trans fr3) kk, fun _ _ _ _ p => p.elim, fun _ _ _ _ p => p.elim⟩
  exact ret_lift R p R3.st .non (f02.trans fr3) kk
section
variable {X : Cx}
/-- the value that the i-th slot holds is frozen: the list of a cell; the slot holds that list then -/
def dFrzS (i : Nat) : DE := fun ρ Q => ∃ j ds, ρ.sl[i]? = some (some (.ptr j)) ∧ ρ.st[j]? = some (.lst ds) ∧ Q (.lst ds) ⟨ρ.sl.set i (some (.lst ds)), ρ.st.set j .dead⟩
theorem de_frzS {i : Nat} {x : Str} {pos : Pos} (h : DEx X (.Name x pos) (dVar i)) : DEx X (.Name x pos) (dFrzS i) := ⟨fun pins s σ H Q I ⟨as, ρ, P, R, ⟨j, ds, hs, hj, p⟩, k⟩ => by
  obtain ⟨v, ev, rv⟩ := R.slot i _ hs
  cases rv with
  | ptr ha =>
    rename_i a
    refine thn (PE.run h pins s σ H (fun v2 H' => ∃ a2 o, v2 = .ref a2 ∧ H' a2 = some o ∧ Mut (some o) ∧ ∀ od, Q v2 (upd H' a2 (.frz od o))) I ⟨as, ρ, fun x ρ' => x = .ptr j ∧ ρ' = ρ, R, ⟨_, hs, rfl, rfl⟩, fun x ρ1 as1 v1 H1 ⟨ex, eρ⟩ R1 r1 f1 => ?_⟩) fun _ _ z => EP.lock z
    subst ex
    subst eρ
    obtain ⟨v2, ev2, rv2⟩ := R1.slot i _ hs
    rw [ev] at ev2
    have ev2 := Option.some.inj (Option.some.inj ev2)
    subst ev2
    have ha1 : as1[j]? = some a := by cases rv2 with | ptr h => exact h
    cases r1 with
    | ptr hb =>
      rw [ha1] at hb
      have hb := Option.some.inj hb
      subst hb
      obtain ⟨xs, e, r⟩ := R1.st.ok j _ a hj ha1
      refine ⟨a, _, rfl, e, trivial, fun od => ?_⟩
      have fr : Frm as1 H1 as1 (upd H1 a (.frz od (.lst xs))) := .cell (List.mem_of_getElem? ha1) e trivial
      have rl : Rep (gd X) (upd H1 a (.frz od (.lst xs))) as1 (.ref a) (.lst ds) := .lst ⟨od, upd_same⟩ (r.frm fr)
      have Rd := R1.dead ha1 e (u := .frz od (.lst xs)) trivial
      refine k _ _ as1 _ _ p ⟨by rw [List.length_set]; exact Rd.len, fun n d hd => ?_, Rd.st⟩ rl (f1.trans fr)
      by_cases hn : i = n
      · subst hn
        have hlt : i < ρ1.sl.length := (List.getElem?_eq_some_iff.mp hs).1
        rw [List.getElem?_set_self hlt] at hd
        have hd := Option.some.inj (Option.some.inj hd)
        subst hd
        exact ⟨_, ev, rl⟩
      · rw [List.getElem?_set_ne hn] at hd
        exact Rd.slot n d hd⟩
theorem ap_frzS {i : Nat} {ρ : DS} {Q : D → DS → Prop} : dFrzS i ρ Q = ∃ j ds, ρ.sl[i]? = some (some (.ptr j)) ∧ ρ.st[j]? = some (.lst ds) ∧ Q (.lst ds) ⟨ρ.sl.set i (some (.lst ds)), ρ.st.set j .dead⟩ := rfl
end
end BB
set_option maxRecDepth 100000
set_option maxHeartbeats 1000000
/-! The data layer, 23: dict displays keyed by ints and texts. -/
namespace BB
open PySem PySem.Spec PyProof.Rows L2
/-- the pairs of a display -/
def dPairs : List (DE × DE) → DS → (List (D × D) → DS → Prop) → Prop
  | [], ρ, Q => Q [] ρ
  | (k, v) :: r, ρ, Q => k ρ fun x ρ1 => v ρ1 fun y ρ2 => dPairs r ρ2 fun ps ρ3 => Q ((x, y) :: ps) ρ3
inductive RepVV (G : Gd) (H : Hp) (as : List Addr) : List (V × V) → List (D × D) → Prop
  | nil : RepVV G H as [] []
  | cons {x y : V} {a b : D} {l : List (V × V)} {m : List (D × D)} : Rep G H as x a → Rep G H as y b → RepVV G H as l m → RepVV G H as ((x, y) :: l) ((a, b) :: m)
theorem RepVV.mono {G : Gd} {H H' : Hp} {as as' : List Addr} (t : ∀ b xs, H b = some (.tup xs) → H' b = some (.tup xs)) (f : ∀ b o u, H b = some (.frz o u) → H' b = some (.frz o u)) (p : ∀ (j : Nat) (a : Addr), as[j]? = some a → as'[j]? = some a) : ∀ {l : List (V × V)} {m : List (D × D)}, RepVV G H as l m → RepVV G H' as' l m
  | _, _, .nil => .nil
  | _, _, .cons h1 h2 r => .cons (h1.mono t f p) (h2.mono t f p) (RepVV.mono t f p r)
section
variable {X : Cx} {pos : Pos}
inductive DPP (X : Cx) : List (Option Expr) → List Expr → List (DE × DE) → Prop
  | nil : DPP X [] [] []
  | cons {k v : Expr} {ks : List (Option Expr)} {vs : List Expr} {kd vd : DE} {r : List (DE × DE)} : DEx X k kd → DEx X v vd → DPP X ks vs r → DPP X (some k :: ks) (v :: vs) ((kd, vd) :: r)
theorem DPP.pps : ∀ {ks : List (Option Expr)} {vs : List Expr} {r : List (DE × DE)}, DPP X ks vs r → PPs X pos ks vs (r.map fun p => (liftE (gd X) p.1, liftE (gd X) p.2))
  | _, _, _, .nil => pps_nil
  | _, _, _, .cons h1 h2 r => pps_cons h1 h2 r.pps
theorem lift_pairs {σ : L2.St} : ∀ {r : List (DE × DE)} {ρ : DS} {P : List (D × D) → DS → Prop} {as : List Addr} {H : Hp} {Q : List (V × V) → Hp → Prop}, RepS (gd X) H as σ ρ → dPairs r ρ P →
    (∀ ps ρ' as' kvs H', P ps ρ' → RepS (gd X) H' as' σ ρ' → RepVV (gd X) H' as' kvs ps → Frm as H as' H' → Q kvs H') → tPairs (r.map fun p => (liftE (gd X) p.1, liftE (gd X) p.2)) σ H Q
  | [], ρ, P, as, H, Q, R, w, k => k [] ρ as [] H w R .nil (.refl _ _)
  | (kd, vd) :: r, ρ, P, as, H, Q, R, w, k => ⟨as, ρ, _, R, w, fun x ρ1 as1 v1 H1 w1 R1 r1 f1 => ⟨as1, ρ1, _, R1, w1, fun y ρ2 as2 v2 H2 w2 R2 r2 f2 => lift_pairs R2 w2 fun ps ρ3 as3 kvs H3 w3 R3 r3 f3 =>
      k _ ρ3 as3 _ H3 w3 R3 (.cons ((r1.frm f2).frm f3) (r2.frm f3) r3) ((f1.trans f2).trans f3)⟩⟩
/-- keys that are ints or texts -/
theorem vv_keys {G : Gd} {H : Hp} {as : List Addr} : ∀ {kvs : List (V × V)} {ps : List (D × D)}, RepVV G H as kvs ps → (∀ p ∈ ps, isKeyS p.1) → ∃ xs : List (Key × V), kvs = xs.map (fun kv => (kV kv.1, kv.2)) ∧ RepKV G H as (ps.map (·.1)) (ps.map (·.2)) xs ∧ xs.map (fun p => some p.1) = ps.map fun p => keyD p.1
  | _, _, .nil, _ => ⟨[], rfl, .nil, rfl⟩
  | _, _, .cons (x := x) (y := y) (a := a) (b := b) h1 h2 r, hk => by
    obtain ⟨xs, e, q, z⟩ := vv_keys r fun p hp => hk p (List.mem_cons_of_mem _ hp)
    obtain ⟨n, hn⟩ := hk _ List.mem_cons_self
    refine ⟨(n, y) :: xs, ?_, .cons hn h2 q, ?_⟩
    · rw [List.map_cons, ← e, kV_keyD h1 hn]
    · rw [List.map_cons, List.map_cons, z, hn]
theorem mergeK_nd : ∀ (more kvs : List (Key × V)), ((kvs ++ more).map (·.1)).Nodup → mergeK kvs more = kvs ++ more
  | [], kvs, _ => by simp [mergeK]
  | p :: r, kvs, h => by
    have e : putK kvs p.1 p.2 = kvs ++ [p] := by
      refine putK_new _ ?_
      cases q : valV kvs p.1 with
      | none => rfl
      | some v =>
        have hm : (kvs.any fun kv => decide (kv.1 = p.1)) = true := by rw [valV_any, q]; rfl
        obtain ⟨z, hz, ez⟩ := List.any_eq_true.mp hm
        rw [List.map_append, List.map_cons] at h
        exact absurd (of_decide_eq_true ez) fun e => (List.nodup_append.mp h).2.2 z.1 (List.mem_map_of_mem (f := fun x : Key × V => x.1) hz) p.1 List.mem_cons_self e
    show mergeK (putK kvs p.1 p.2) r = _
    rw [e, mergeK_nd r (kvs ++ [p]) (by simpa using h)]
    simp
def dDisp (r : List (DE × DE)) : DE := fun ρ Q => dPairs r ρ fun ps ρ' => (∀ p ∈ ps, isKeyS p.1) ∧ ps.length ≤ 15 ∧ (ps.map fun p => keyD p.1).Nodup ∧ Q (.ptr ρ'.st.length) ⟨ρ'.sl, ρ'.st ++ [.dcs (ps.map (·.1)) (ps.map (·.2))]⟩
theorem de_disp {ks : List (Option Expr)} {vs : List Expr} {r : List (DE × DE)} (h : DPP X ks vs r) (hall : ks.all (·.isSome) = true) (hl : ks.length = vs.length) (h0 : ks ≠ []) (h15 : ks.length ≤ 15) : DEx X (.Dict ks vs pos) (dDisp r) :=
  pe_con' (pe_disp h.pps hall hl h0 h15) fun σ H Q ⟨as, ρ, P, R, w, k⟩ p hp => by
  have s0 : Same H (upd H p (.dK [])) := Same.upd hp
  refine lift_pairs (R.same s0) w fun ps ρ2 as2 kvs H2 ⟨wk, w15, wn, w2⟩ R2 r2 f2 => ?_
  have hno : p ∉ as2 := notin_grow f2 (R.st.notin hp) upd_same
  have e2 : H2 p = some (.dK []) := f2.keep _ _ upd_same (R.st.notin hp)
  obtain ⟨xs, rfl, rk, ez⟩ := vv_keys r2 wk
  have hnd : (xs.map (·.1)).Nodup := by
    have : (xs.map fun p => some p.1).Nodup := by rw [ez]; exact wn
    rw [show (xs.map fun p => some p.1) = (xs.map (·.1)).map some by rw [List.map_map]; rfl] at this
    exact List.Pairwise.imp (fun h e => h (congrArg some e)) (List.pairwise_map.mp this)
  have hlen : xs.length ≤ 15 := by
    have : xs.length = ps.length := by simpa using congrArg List.length ez
    omega
  refine ⟨e2, xs, rfl, hlen, ?_⟩
  rw [mergeK_nd xs [] (by simpa using hnd), List.nil_append]
  have ff : Frm as H as2 (upd H2 p (.dK xs)) := (f2.under hp hno).apart hp e2 trivial
  have RR : RepS (gd X) (upd H2 p (.dK xs)) as2 σ ρ2 := R2.apart hno e2 trivial
  have g : Frm [p] H2 [p] (upd H2 p (.dK xs)) := .cell (List.mem_singleton.mpr rfl) e2 trivial
  have ents : RepKV (gd X) (upd H2 p (.dK xs)) as2 (ps.map (·.1)) (ps.map (·.2)) xs := rk.mono g.tups g.frzs (fun _ _ z => z)
  have pre : ∀ (j : Nat) (a : Addr), as2[j]? = some a → (as2 ++ [p])[j]? = some a := fun j a h => by rw [List.getElem?_append_left (List.getElem?_eq_some_iff.mp h).1]; exact h
  have up : ∀ v d, Rep (gd X) (upd H2 p (.dK xs)) as2 v d → Rep (gd X) (upd H2 p (.dK xs)) (as2 ++ [p]) v d := fun v d r => r.mono (fun _ _ z => z) (fun _ _ _ z => z) pre
  have hl : (as2 ++ [p])[ρ2.st.length]? = some p := by rw [← R2.st.len, List.getElem?_append_right (Nat.le_refl _)]; simp
  refine k _ ⟨ρ2.sl, ρ2.st ++ [.dcs (ps.map (·.1)) (ps.map (·.2))]⟩ (as2 ++ [p]) _ _ w2 ⟨RR.len, fun i d hd => ?_, ⟨by simp [RR.st.len], ?_, fun j c a hj ha => ?_⟩⟩ (.ptr hl) ?_
  · obtain ⟨v, ev, r⟩ := RR.slot i d hd
    exact ⟨v, ev, up _ _ r⟩
  · rw [List.nodup_append]
    refine ⟨R2.st.nd, by simp, fun x hx y hy z => ?_⟩
    rw [List.mem_singleton.mp hy] at z
    exact hno (by rw [← z]; exact hx)
  · by_cases hlt : j < ρ2.st.length
    · rw [List.getElem?_append_left hlt] at hj
      rw [List.getElem?_append_left (by rw [R2.st.len]; exact hlt)] at ha
      exact (RR.st.ok j c a hj ha).up (fun _ e => e) up
    · have hj' : j = ρ2.st.length := by
        have := (List.getElem?_eq_some_iff.mp hj).1
        simp at this
        omega
      subst hj'
      rw [List.getElem?_append_right (Nat.le_refl _)] at hj
      rw [List.getElem?_append_right (by rw [R2.st.len]; exact Nat.le_refl _), R2.st.len] at ha
      simp at hj ha
      subst hj; subst ha
      exact ⟨_, upd_same, ents.up up⟩
  · refine ⟨?_, ff.tups, ff.frzs, ff.keep, ff.live⟩
    obtain ⟨more, e, hn⟩ := ff.pre
    refine ⟨more ++ [p], by rw [e, List.append_assoc], fun a ha => ?_⟩
    rcases List.mem_append.mp ha with ha | ha
    · exact hn a ha
    · rw [List.mem_singleton.mp ha]; exact hp
end
end BB
set_option maxRecDepth 100000
/-! k13: what its own defs promise. -/
namespace BB
open PySem PySem.Spec PyProof.Rows L2
structure OkDr (L C : Nat) (T : Int) (d : Drop) : Prop where
  f0 : 0 ≤ d.f
  f1 : d.f ≤ T
  bx : d.x ∈ box L 2 C
  w0 : 1 ≤ d.w
  w1 : d.w ≤ 400
def F_law_drop : FS := fun ds st Q => ∃ (j : Nat) (ns : List Int) (k c : Int) (L C T : Nat), ds = [.ptr j, eSh L C, .int (T : Int)] ∧ st[j]? = some (tapeC ns k c) ∧ 0 < L ∧ L < 1000 ∧ 0 < C ∧ C < 1000 ∧ T < 100000 ∧
  ∀ (d : Drop) (k' c' : Int), OkDr L C T d → Q (eDr d) (st.set j (tapeC ns k' c'))
/-- other names: leaves, sides, the width, cells -/
structure Nm where
  l : List Nat
  t : Bool
  w : Nat
  b : Bool
def eNm (m : Nm) : D := .tup [.tup (m.l.map fun (i : Nat) => D.int (i : Int)), .bl m.t, .int (m.w : Int), .bl m.b]
def Nm.leaf (m : Nm) (i : Int) : Int := ((m.l.getD i.toNat 0 : Nat) : Int)
def Nm.side (m : Nm) (i : Int) : Int := if m.t = true then 1 - i else i
def Nm.cell (m : Nm) (i : Int) : Int := if m.b = true then (m.w : Int) - 1 - i else i
def Nm.spot (m : Nm) (x : T3) : T3 := (m.leaf x.1, m.side x.2.1, m.cell x.2.2)
def Nm.lie (m : Nm) (p : T3) : T3 := (m.leaf p.1, m.side p.2.1, if m.b = true then 1 - p.2.2 else p.2.2)
def F_law_named : FS := fun ds st Q => ∃ (m : Nm) (x : T3), ds = [eNm m, e3 x] ∧ 0 ≤ x.1 ∧ x.1 < (m.l.length : Int) ∧ Q (e3 (m.spot x)) st
def F_law_lying : FS := fun ds st Q => ∃ (m : Nm) (s : Stand), ds = [eNm m, eSt s] ∧ (∀ p ∈ s, 0 ≤ p.1 ∧ p.1 < (m.l.length : Int)) ∧ s.length ≤ 1000 ∧ Q (eSt (s.map m.lie)) st
def mirS (s : Stand) : Stand := s.reverse.map fun p => (p.1, 1 - p.2.1, p.2.2)
def F_law_mirrored : FS := fun ds st Q => ∃ (L C : Nat) (s : Stand), ds = [eSh L C, eSt s] ∧ s.length ≤ 1000 ∧ Q (eSt (mirS s)) st
def mirD (L : Nat) : Deed → Deed
  | .press k => .press (L - 2 - k)
  | .swap k => .swap (L - 2 - k)
  | .over k => .over (L - 1 - k)
  | .about k => .about (L - 1 - k)
  | .wait n => .wait n
def F_law_mirrored_row : FS := fun ds st Q => ∃ (L C : Nat) (r : List Deed), ds = [eSh L C, eR r] ∧ (∀ d ∈ r, okDeed L d) ∧ r.length ≤ 1000 ∧ Q (eR (r.map (mirD L))) st
end BB
set_option maxRecDepth 100000
namespace BB
open PySem PySem.Spec PyProof.Rows L2
def b_ticks : DP :=
  (dRet (dBt wSum (dCons (dLc (dIt (dVar 0)) (gSet 1) dYes (dCall 1 F_takes (dCons (dVar 1) dNil)) [1]) dNil)))

def b_roads (w : World) : DP :=
  (dSeq (dAsg (dVar 3) (gTupD 3 (gMore (gSet 4) (gMore (gSet 5) (gMore (gSet 6) gEnd)))))
  (dSeq (dAsg (dOneT (dVar 5) (dTup (dCons (dVar 4) (dCons (dC (.int 0)) (dCons (dTup dNil) dNil))))) (gSet 7))
  (dSeq (dFor (dIt (dCall 3 F_presses (dCons (dVar 0) (dCons (dVar 1) (dCons (dVar 2) dNil))))) (gTupD 3 (gMore (gSet 8) (gMore (gSet 9) (gMore (gSet 10) gEnd))))
  (dIfS (dB (dChain wLe wLt (dVar 4) (dVar 9) (dOp wAdd (dVar 4) (dVar 6)))) (dSeq (dAsg (dBt (wDictOf w) (dCons (dVar 7) dNil)) (gSet 11))
  (dFor (dItems (dVar 11)) (gTupD 2 (gMore (gSet 12) (gMore (gTupD 3 (gMore (gSet 13) (gMore (gSet 14) (gMore (gSet 15) gEnd)))) gEnd)))
  (dSeq (dAsg (dCall 2 F_partner (dCons (dVar 10) (dCons (dVar 12) dNil))) (gSet 16))
  (dIfS (dAnd (dB (dNotN (dVar 16))) (dB (dOp (wIn true) (dVar 16) (dVar 11)))) (dAsg (dTup (dCons (dVar 9) (dCons (dOp wAdd (dVar 14) (dC (.int 1))) (dCons (dOp wAdd (dVar 15) (dTup (dCons (dVar 8) dNil))) dNil)))) (gSubD wSetA (dVar 7) (dVar 16))) dNext)))) dNext))
  (dRet (dFrz (dVar 7))))))

def b_is_better : DP :=
  (dRet (dOrV (dIsN (dVar 1)) (dOp wLtD (dTup (dCons (dBt wLen (dCons (dVar 0) dNil)) (dCons (dVar 0) dNil))) (dTup (dCons (dBt wLen (dCons (dVar 1) dNil)) (dCons (dVar 1) dNil))))))

def b_best_road (w : World) : DP :=
  (dSeq (dAsg (dGet2 (dCall 4 F_roads (dCons (dVar 0) (dCons (dVar 1) (dCons (dVar 2) (dCons (dVar 3) dNil))))) (dVar 4) (dC .non)) (gSet 5))
  (dSeq (dIfS (dB (dIsN (dVar 5))) (dRet (dC .non)) dNext)
  (dSeq (dAsg (dVar 3) (gTupD 3 (gMore (gSet 6) (gMore (gSet 7) (gMore (gSet 8) gEnd)))))
  (dSeq (dAsg (dFrz (dOneT (dVar 7) (dTup dNil))) (gSet 9))
  (dSeq (dFor (dIt (dCall 3 F_presses (dCons (dVar 0) (dCons (dVar 1) (dCons (dVar 2) dNil))))) (gTupD 3 (gMore (gSet 10) (gMore (gSet 11) (gMore (gSet 12) gEnd))))
  (dIfS (dAnd (dB (dChain wLe wLe (dVar 6) (dVar 11) (dOp wIxA (dVar 5) (dC (.int 0))))) (dB (dOp wLt (dVar 11) (dOp wAdd (dVar 6) (dVar 8))))) (dSeq (dAsg (dDictNew w (dVar 9)) (gSet 13))
  (dSeq (dFor (dItems (dVar 9)) (gTupD 2 (gMore (gSet 14) (gMore (gSet 15) gEnd)))
  (dSeq (dAsg (dCall 2 F_partner (dCons (dVar 12) (dCons (dVar 14) dNil))) (gSet 16))
  (dIfS (dAnd (dB (dNotN (dVar 16))) (dB (dCall 2 F_is_better (dCons (dOp wAdd (dVar 15) (dTup (dCons (dVar 10) dNil))) (dCons (dGet2 (dVar 13) (dVar 16) (dC .non)) dNil))))) (dAsg (dOp wAdd (dVar 15) (dTup (dCons (dVar 10) dNil))) (gSubD wSetA (dVar 13) (dVar 16))) dNext)))
  (dAsg (dFrz (dVar 13)) (gSet 9)))) dNext))
  (dRet (dOp wIxA (dVar 9) (dVar 4))))))))

def b_road : DP :=
  (dRet (dIf (dB (dOp wEq (dOp wIxA (dVar 3) (dC (.int 1))) (dVar 4))) (dTup dNil) (dCall 5 F_best_road (dCons (dVar 0) (dCons (dVar 1) (dCons (dVar 2) (dCons (dVar 3) (dCons (dVar 4) dNil))))))))

def b_last_tick : DP :=
  (dSeq (dIfS (dB (dOp wEq (dVar 3) (dVar 4))) (dRet (dCall 1 F_ticks (dCons (dVar 2) dNil))) dNext)
  (dSeq (dAsg (dOneT (dVar 4) (dC .non)) (gSet 5))
  (dSeq (dFor (dIt (dRev (dCall 3 F_presses (dCons (dVar 0) (dCons (dVar 1) (dCons (dVar 2) dNil)))))) (gTupD 3 (gMore (gSet 6) (gMore (gSet 7) (gMore (gSet 8) gEnd))))
  (dFor (dIt (dVar 8)) (gTupD 2 (gMore (gSet 9) (gMore (gSet 10) gEnd)))
  (dFor (dIt (dTup (dCons (dTup (dCons (dVar 9) (dCons (dVar 10) dNil))) (dCons (dTup (dCons (dVar 10) (dCons (dVar 9) dNil))) dNil)))) (gTupD 2 (gMore (gSet 11) (gMore (gSet 12) gEnd)))
  (dIfS (dAnd (dB (dOp (wIn false) (dVar 12) (dVar 5))) (dB (dOp (wIn true) (dVar 11) (dVar 5)))) (dAsg (dVar 7) (gSubD wSetA (dVar 5) (dVar 11))) dNext))))
  (dRet (dGet2 (dVar 5) (dVar 3) (dC .non))))))

def b_law_shape : DP :=
  (dRet (dTup (dCons (dOp wAdd (dC (.int 1)) (dCall 2 F_law_draw (dCons (dVar 0) (dCons (dVar 1) dNil)))) (dCons (dOp wAdd (dC (.int 1)) (dCall 2 F_law_draw (dCons (dVar 0) (dCons (dVar 2) dNil)))) dNil))))

def b_law_a_deed : DP :=
  (dSeq (dAsg (dCall 2 F_law_draw (dCons (dVar 0) (dCons (dC (.int 9)) dNil))) (gSet 2))
  (dSeq (dIfS (dAnd (dB (dOp wLt (dVar 2) (dC (.int 6)))) (dB (dOp wGt (dOp wIxA (dVar 1) (dC (.int 0))) (dC (.int 1))))) (dRet (dTup (dCons (dOp wIxA (dLst (dCons (dC (.str "press")) (dCons (dC (.str "press")) (dCons (dC (.str "press")) (dCons (dC (.str "press")) (dCons (dC (.str "swap")) (dCons (dC (.str "swap")) dNil))))))) (dVar 2)) (dCons (dCall 2 F_law_draw (dCons (dVar 0) (dCons (dOp wSub (dOp wIxA (dVar 1) (dC (.int 0))) (dC (.int 1))) dNil))) dNil)))) dNext)
  (dSeq (dIfS (dB (dOp wLt (dVar 2) (dC (.int 8)))) (dRet (dTup (dCons (dOp wIxA (dLst (dCons (dC (.str "over")) (dCons (dC (.str "about")) dNil))) (dOp wMod (dVar 2) (dC (.int 2)))) (dCons (dCall 2 F_law_draw (dCons (dVar 0) (dCons (dOp wIxA (dVar 1) (dC (.int 0))) dNil))) dNil)))) dNext)
  (dRet (dTup (dCons (dC (.str "wait")) (dCons (dOp wIxA (dLst (dCons (dC (.int 1)) (dCons (dC (.int 2)) (dCons (dOp wAdd (dC (.int 1)) (dCall 2 F_law_draw (dCons (dVar 0) (dCons (dC (.int 9)) dNil)))) dNil)))) (dCall 2 F_law_draw (dCons (dVar 0) (dCons (dC (.int 3)) dNil)))) dNil)))))))

def b_law_row : DP :=
  (dRet (dLc (dRg1 fun ρ Q => (dCons (dCall 2 F_law_draw (dCons (dVar 0) (dCons (dOp wAdd (dVar 2) (dC (.int 1))) dNil))) dNil) ρ fun xs ρ' => (∀ j, xs = [.int j] → -(2 ^ 62) ≤ j) ∧ Q xs ρ') (gSet 3) dYes (dCall 2 F_law_a_deed (dCons (dVar 0) (dCons (dVar 1) dNil))) [3]))

def b_law_drop : DP :=
  (dRet (dTup (dCons (dCall 2 F_law_draw (dCons (dVar 0) (dCons (dOp wAdd (dVar 2) (dC (.int 1))) dNil))) (dCons (dCall 2 F_law_spot (dCons (dVar 0) (dCons (dVar 1) dNil))) (dCons (dOp wIxA (dLst (dCons (dC (.int 1)) (dCons (dC (.int 3)) (dCons (dC (.int 400)) (dCons (dOp wAdd (dC (.int 1)) (dCall 2 F_law_draw (dCons (dVar 0) (dCons (dC (.int 30)) dNil)))) dNil))))) (dCall 2 F_law_draw (dCons (dVar 0) (dCons (dC (.int 4)) dNil)))) dNil)))))

def b_law_named : DP :=
  (dSeq (dAsg (dVar 1) (gTupD 3 (gMore (gSet 2) (gMore (gSet 3) (gMore (gSet 4) gEnd)))))
  (dSeq (dPar3 5 6 7 (dCons (dOp wIxA (dOp wIxA (dVar 0) (dC (.int 0))) (dVar 2)) (dCons (dOp wIxA (dVar 0) (dC (.int 1))) (dCons (dOp wIxA (dVar 0) (dC (.int 2))) dNil))))
  (dRet (dTup (dCons (dVar 5) (dCons (dIf (dB (dVar 6)) (dOp wSub (dC (.int 1)) (dVar 3)) (dVar 3)) (dCons (dIf (dB (dOp wIxA (dVar 0) (dC (.int 3)))) (dOp wSub (dOp wSub (dVar 7) (dC (.int 1))) (dVar 4)) (dVar 4)) dNil)))))))

def b_law_lying : DP :=
  (dSeq (dAsg (dNewL dNil) (gSet 2))
  (dSeq (dFor (dIt (dVar 1)) (gTupD 3 (gMore (gSet 3) (gMore (gSet 4) (gMore (gSet 5) gEnd))))
  (dDrop (dBm wApp (dVar 2) (dCons (dTup (dCons (dOp wIxA (dOp wIxA (dVar 0) (dC (.int 0))) (dVar 3)) (dCons (dIf (dB (dOp wIxA (dVar 0) (dC (.int 1)))) (dOp wSub (dC (.int 1)) (dVar 4)) (dVar 4)) (dCons (dIf (dB (dOp wIxA (dVar 0) (dC (.int 3)))) (dOp wSub (dC (.int 1)) (dVar 5)) (dVar 5)) dNil)))) dNil))))
  (dRet (dBt wTupOf (dCons (dVar 2) dNil)))))

def b_law_mirrored : DP :=
  (dRet (dBt wTupOf (dCons (dLc (dIt (dRev (dVar 1))) (gTupD 3 (gMore (gSet 2) (gMore (gSet 3) (gMore (gSet 4) gEnd)))) dYes (dTup (dCons (dVar 2) (dCons (dOp wSub (dC (.int 1)) (dVar 3)) (dCons (dVar 4) dNil)))) [2, 3, 4]) dNil)))

def b_law_mirrored_row : DP :=
  (dSeq (dAsg (dNewL dNil) (gSet 2))
  (dSeq (dFor (dIt (dVar 1)) (gTupD 2 (gMore (gSet 3) (gMore (gSet 4) gEnd)))
  (dSeq (dAsg (dFrz (dDisp (((dC (.str "press")), (dOp wSub (dOp wIxA (dVar 0) (dC (.int 0))) (dC (.int 2)))) :: (((dC (.str "swap")), (dOp wSub (dOp wIxA (dVar 0) (dC (.int 0))) (dC (.int 2)))) :: (((dC (.str "over")), (dOp wSub (dOp wIxA (dVar 0) (dC (.int 0))) (dC (.int 1)))) :: (((dC (.str "about")), (dOp wSub (dOp wIxA (dVar 0) (dC (.int 0))) (dC (.int 1)))) :: [])))))) (gSet 5))
  (dDrop (dBm wApp (dVar 2) (dCons (dTup (dCons (dVar 3) (dCons (dIf (dB (dOp wEq (dVar 3) (dC (.str "wait")))) (dVar 4) (dOp wSub (dOp wIxA (dVar 5) (dVar 3)) (dVar 4))) dNil))) dNil)))))
  (dRet (dFrz (dVar 2)))))


end BB
set_option maxRecDepth 100000
namespace BB
open PySem PySem.Spec PyProof.Rows L2
def b_first_stand : DP :=
  (dRet (dBt wTupOf (dCons (dLc (dRg1 fun ρ Q => (dCons (dOp wIxA (dVar 0) (dC (.int 0))) dNil) ρ fun xs ρ' => (∀ j, xs = [.int j] → -(2 ^ 62) ≤ j) ∧ Q xs ρ') (gSet 1) dYes (dTup (dCons (dVar 1) (dCons (dC (.int 0)) (dCons (dC (.int 0)) dNil)))) [1]) dNil)))

def b_far_from_back : DP :=
  (dRet (dIf (dB (dOp wEq (dVar 1) (dC (.int 1)))) (dOp wSub (dOp wSub (dOp wIxA (dVar 0) (dC (.int 1))) (dC (.int 1))) (dVar 2)) (dVar 2)))

def b_touched : DP :=
  (dSeq (dAsg (dVar 2) (gTupD 3 (gMore (gSet 3) (gMore (gSet 4) (gMore (gSet 5) gEnd)))))
  (dSeq (dAsg (dBm wIdx (dLc (dIt (dVar 1)) (gSet 14) dYes (dOp wIxA (dVar 14) (dC (.int 0))) [14]) (dCons (dVar 3) dNil)) (gSet 6))
  (dSeq (dAsg (dSl (dOp wIxA (dVar 1) (dVar 6)) (dSome (dC (.int 1))) dNoP) (gTupD 2 (gMore (gSet 7) (gMore (gSet 8) gEnd))))
  (dSeq (dAsg (dIf (dB (dOp wEq (dVar 4) (dVar 7))) (dOp wSub (dVar 6) (dC (.int 1))) (dOp wAdd (dVar 6) (dC (.int 1)))) (gSet 9))
  (dSeq (dIfS (dNot (dB (dChain wLe wLt (dC (.int 0)) (dVar 9) (dBt wLen (dCons (dVar 1) dNil))))) (dRet (dC .non)) dNext)
  (dSeq (dAsg (dOp wIxA (dVar 1) (dVar 9)) (gTupD 3 (gMore (gSet 10) (gMore (gSet 11) (gMore (gSet 12) gEnd)))))
  (dSeq (dAsg (dIf (dB (dOp wLt (dVar 9) (dVar 6))) (dOp wSub (dC (.int 1)) (dVar 11)) (dVar 11)) (gSet 13))
  (dRet (dTup (dCons (dVar 10) (dCons (dVar 13) (dCons (dCall 3 F_far_from_back (dCons (dVar 0) (dCons (dVar 12) (dCons (dCall 3 F_far_from_back (dCons (dVar 0) (dCons (dVar 8) (dCons (dVar 5) dNil)))) dNil)))) dNil))))))))))))

def b_pairs_at : DP :=
  (dSeq (dAsg (dOp wIxA (dVar 1) (dVar 2)) (gTupD 3 (gMore (gSet 3) (gMore (gSet 4) (gMore (gSet 5) gEnd)))))
  (dSeq (dAsg (dNewL dNil) (gSet 6))
  (dSeq (dFor (dRg1 fun ρ Q => (dCons (dOp wIxA (dVar 0) (dC (.int 1))) dNil) ρ fun xs ρ' => (∀ j, xs = [.int j] → -(2 ^ 62) ≤ j) ∧ Q xs ρ') (gSet 7)
  (dSeq (dAsg (dTup (dCons (dVar 3) (dCons (dOp wSub (dC (.int 1)) (dVar 4)) (dCons (dVar 7) dNil)))) (gSet 8))
  (dDrop (dBm wApp (dVar 6) (dCons (dTup (dCons (dVar 8) (dCons (dCall 3 F_touched (dCons (dVar 0) (dCons (dVar 1) (dCons (dVar 8) dNil)))) dNil))) dNil)))))
  (dRet (dFrz (dVar 6))))))

def b_takes : DP :=
  (dRet (dIf (dB (dOp wEq (dOp wIxA (dVar 0) (dC (.int 0))) (dC (.str "wait")))) (dOp wIxA (dVar 0) (dC (.int 1))) (dC (.int 1))))

def b_moved : DP :=
  (dSeq (dAsg (dVar 1) (gTupD 2 (gMore (gSet 2) (gMore (gSet 3) gEnd))))
  (dSeq (dIfS (dB (dOp wEq (dVar 2) (dC (.str "swap")))) (dRet (dOp wAdd (dOp wAdd (dSl (dVar 0) dNoP (dSome (dVar 3))) (dTup (dCons (dOp wIxA (dVar 0) (dOp wAdd (dVar 3) (dC (.int 1)))) (dCons (dOp wIxA (dVar 0) (dVar 3)) dNil)))) (dSl (dVar 0) (dSome (dOp wAdd (dVar 3) (dC (.int 2)))) dNoP))) dNext)
  (dSeq (dIfS (dB (dOp (wIn true) (dVar 2) (dTup (dCons (dC (.str "over")) (dCons (dC (.str "about")) dNil))))) (dRet (dVar 0)) dNext)
  (dSeq (dAsg (dOp wIxA (dVar 0) (dVar 3)) (gTupD 3 (gMore (gSet 4) (gMore (gSet 5) (gMore (gSet 6) gEnd)))))
  (dSeq (dAsg (dIf (dB (dOp wEq (dVar 2) (dC (.str "over")))) (dTup (dCons (dVar 4) (dCons (dOp wSub (dC (.int 1)) (dVar 5)) (dCons (dVar 6) dNil)))) (dTup (dCons (dVar 4) (dCons (dVar 5) (dCons (dOp wSub (dC (.int 1)) (dVar 6)) dNil))))) (gSet 7))
  (dRet (dOp wAdd (dOp wAdd (dSl (dVar 0) dNoP (dSome (dVar 3))) (dTup (dCons (dVar 7) dNil))) (dSl (dVar 0) (dSome (dOp wAdd (dVar 3) (dC (.int 1)))) dNoP))))))))

def b_presses : DP :=
  (dSeq (dAsg (dNewL dNil) (gSet 3))
  (dSeq (dAsg (dC (.int 0)) (gSet 4))
  (dSeq (dFor (dEnum (dCons (dVar 2) dNil)) (gTupD 2 (gMore (gSet 5) (gMore (gSet 6) gEnd)))
  (dSeq (dIfS (dB (dOp wEq (dOp wIxA (dVar 6) (dC (.int 0))) (dC (.str "press")))) (dDrop (dBm wApp (dVar 3) (dCons (dTup (dCons (dVar 5) (dCons (dVar 4) (dCons (dCall 3 F_pairs_at (dCons (dVar 0) (dCons (dVar 1) (dCons (dOp wIxA (dVar 6) (dC (.int 1))) dNil)))) dNil)))) dNil))) dNext)
  (dSeq (dAsg (dCall 2 F_moved (dCons (dVar 1) (dCons (dVar 6) dNil))) (gSet 1))
  (dAug 4 (dCall 1 F_takes (dCons (dVar 6) dNil))))))
  (dRet (dFrz (dVar 3))))))

def b_put_on : DP :=
  (dSeq (dAsg (dGet2 (dVar 0) (dVar 1) (dTup (dCons (dVar 2) (dCons (dVar 3) dNil)))) (gSet 4))
  (dAsg (dTup (dCons (dBt wMin2 (dCons (dOp wIxA (dVar 4) (dC (.int 0))) (dCons (dVar 2) dNil))) (dCons (dBt wMax2 (dCons (dOp wIxA (dVar 4) (dC (.int 1))) (dCons (dVar 3) dNil))) dNil))) (gSubD wSetA (dVar 0) (dVar 1))))

def b_pressed : DP :=
  (dSeq (dAsg (dNewL dNil) (gSet 3))
  (dSeq (dFor (dIt (dVar 2)) (gTupD 2 (gMore (gSet 4) (gMore (gSet 5) gEnd)))
  (dSeq (dAsg (dLc (dIt (dTup (dCons (dVar 4) (dCons (dVar 5) dNil)))) (gSet 8) (dB (dOp (wIn false) (dVar 8) (dVar 0))) (dTup (dCons (dVar 8) (dCons (dOp wIxA (dVar 0) (dVar 8)) dNil))) [8]) (gSet 6))
  (dSeq (dAsg (dLc (dIt (dVar 6)) (gTupD 2 (gMore (gSet 8) (gMore (gSet 9) gEnd))) (dB (dOp wLt (dVar 1) (dOp wIxA (dVar 9) (dC (.int 1))))) (dOp wIxA (dVar 9) (dC (.int 1))) [8, 9]) (gSet 7))
  (dIfS (dB (dOp wNe (dVar 7) (dLst dNil))) (dSeq (dDrop (dBm wExt (dVar 3) (dCons (dLc (dIt (dTup (dCons (dVar 4) (dCons (dVar 5) dNil)))) (gSet 8) (dB (dOp (wIn true) (dVar 8) (dVar 0))) (dVar 8) [8]) dNil)))
  (dFor (dIt (dTup (dCons (dVar 4) (dCons (dVar 5) dNil)))) (gSet 8)
  (dDrop (dCall 4 F_put_on (dCons (dVar 0) (dCons (dVar 8) (dCons (dVar 1) (dCons (dBt wMaxL (dCons (dVar 7) dNil)) dNil)))))))) dNext))))
  (dRet (dFrz (dVar 3)))))

def b_spread : DP :=
  (dSeq (dAsg dNewT (gSet 4))
  (dSeq (dAsg (dBtN wSrtN (dCons (dVar 3) dNil)) (gSet 5))
  (dSeq (dFor (dIt (dCall 3 F_presses (dCons (dVar 0) (dCons (dVar 1) (dCons (dVar 2) dNil))))) (gTupD 3 (gMore (gSet 6) (gMore (gSet 7) (gMore (gSet 8) gEnd))))
  (dSeq (dWhile (dAnd (dB (dOp wNe (dVar 5) (dLst dNil))) (dB (dOp wLe (dOp wIxA (dOp wIxA (dVar 5) (dC (.int 0))) (dC (.int 0))) (dVar 7))))
  (dSeq (dAsg (dBm wPop0 (dVar 5) (dCons (dC (.int 0)) dNil)) (gTupD 3 (gMore (gSet 9) (gMore (gSet 10) (gMore (gSet 11) gEnd)))))
  (dDrop (dCall 4 F_put_on (dCons (dVar 4) (dCons (dVar 10) (dCons (dVar 9) (dCons (dOp wAdd (dVar 9) (dVar 11)) dNil))))))))
  (dDrop (dCall 3 F_pressed (dCons (dVar 4) (dCons (dVar 7) (dCons (dVar 8) dNil)))))))
  (dSeq (dFor (dIt (dFrz (dVar 5))) (gTupD 3 (gMore (gSet 9) (gMore (gSet 10) (gMore (gSet 11) gEnd))))
  (dDrop (dCall 4 F_put_on (dCons (dVar 4) (dCons (dVar 10) (dCons (dVar 9) (dCons (dOp wAdd (dVar 9) (dVar 11)) dNil)))))))
  (dRet (dFrz (dVar 4)))))))

def b_marks : DP :=
  (dSeq (dAsg (dCall 4 F_spread (dCons (dVar 0) (dCons (dVar 1) (dCons (dVar 2) (dCons (dVar 3) dNil))))) (gSet 4))
  (dRet (dLc (dIt (dBt wSrtA (dCons (dVar 4) dNil))) (gSet 5) dYes (dOp wAdd (dTup (dCons (dVar 5) dNil)) (dOp wIxA (dVar 4) (dVar 5))) [5])))

def b_partner : DP :=
  (dSeq (dFor (dIt (dVar 0)) (gTupD 2 (gMore (gSet 2) (gMore (gSet 3) gEnd)))
  (dIfS (dB (dOp (wIn false) (dVar 1) (dTup (dCons (dVar 2) (dCons (dVar 3) dNil))))) (dRet (dIf (dB (dOp wEq (dVar 1) (dVar 2))) (dVar 3) (dVar 2))) dNext))
  (dRet (dC .non)))

def b_all_deeds : DP :=
  (dSeq (dAsg (dOp wAdd (dLc (dRg1 fun ρ Q => (dCons (dOp wIxA (dVar 0) (dC (.int 0))) dNil) ρ fun xs ρ' => (∀ j, xs = [.int j] → -(2 ^ 62) ≤ j) ∧ Q xs ρ') (gSet 3) dYes (dTup (dCons (dC (.str "about")) (dCons (dVar 3) dNil))) [3]) (dLc (dRg1 fun ρ Q => (dCons (dOp wIxA (dVar 0) (dC (.int 0))) dNil) ρ fun xs ρ' => (∀ j, xs = [.int j] → -(2 ^ 62) ≤ j) ∧ Q xs ρ') (gSet 3) dYes (dTup (dCons (dC (.str "over")) (dCons (dVar 3) dNil))) [3])) (gSet 1))
  (dSeq (dFor (dIt (dTup (dCons (dC (.str "press")) (dCons (dC (.str "swap")) dNil)))) (gSet 2)
  (dAsg (dOp wAdd (dVar 1) (dLc (dRg1 fun ρ Q => (dCons (dOp wSub (dOp wIxA (dVar 0) (dC (.int 0))) (dC (.int 1))) dNil) ρ fun xs ρ' => (∀ j, xs = [.int j] → -(2 ^ 62) ≤ j) ∧ Q xs ρ') (gSet 3) dYes (dTup (dCons (dVar 2) (dCons (dVar 3) dNil))) [3])) (gSet 1)))
  (dRet (dVar 1))))

def b_later : DP :=
  (dSeq (dIfS (dB (dOp wNe (dOp wIxA (dVar 3) (dC (.int 0))) (dC (.str "press")))) (dRet (dLst (dCons (dTup (dCons (dCall 2 F_moved (dCons (dVar 1) (dCons (dVar 3) dNil))) (dCons (dVar 2) dNil))) dNil))) dNext)
  (dSeq (dAsg (dCall 2 F_partner (dCons (dCall 3 F_pairs_at (dCons (dVar 0) (dCons (dVar 1) (dCons (dOp wIxA (dVar 3) (dC (.int 1))) dNil)))) (dCons (dVar 2) dNil))) (gSet 4))
  (dRet (dOp wAdd (dLst (dCons (dTup (dCons (dVar 1) (dCons (dVar 2) dNil))) dNil)) (dIf (dB (dNotN (dVar 4))) (dLst (dCons (dTup (dCons (dVar 1) (dCons (dVar 4) dNil))) dNil)) (dLst dNil))))))

def b_bring : DP :=
  (dSeq (dIfS (dB (dOp wEq (dVar 2) (dVar 3))) (dRet (dLst dNil)) dNext)
  (dSeq (dAsg (dLst (dCons (dTup (dCons (dTup dNil) (dCons (dVar 1) (dCons (dVar 2) dNil)))) dNil)) (gSet 5))
  (dSeq (dAsg (dOneT (dTup (dCons (dVar 1) (dCons (dVar 2) dNil))) (dC (.bl true))) (gSet 6))
  (dSeq (dFor (dRg1 fun ρ Q => (dCons (dVar 4) dNil) ρ fun xs ρ' => (∀ j, xs = [.int j] → -(2 ^ 62) ≤ j) ∧ Q xs ρ') (gSet 7)
  (dSeq (dAsg (dNewL dNil) (gSet 8))
  (dSeq (dFor (dIt (dVar 5)) (gTupD 3 (gMore (gSet 9) (gMore (gSet 10) (gMore (gSet 11) gEnd))))
  (dFor (dIt (dCall 1 F_all_deeds (dCons (dVar 0) dNil))) (gSet 12)
  (dFor (dIt (dCall 4 F_later (dCons (dVar 0) (dCons (dVar 10) (dCons (dVar 11) (dCons (dVar 12) dNil)))))) (gSet 13)
  (dSeq (dIfS (dB (dOp wEq (dOp wIxA (dVar 13) (dC (.int 1))) (dVar 3))) (dRet (dBt wLstOf (dCons (dOp wAdd (dVar 9) (dTup (dCons (dVar 12) dNil))) dNil))) dNext)
  (dIfS (dB (dOp (wIn true) (dVar 13) (dVar 6))) (dSeq (dAsg (dC (.bl true)) (gSubD wSetA (dVar 6) (dVar 13)))
  (dDrop (dBm wApp (dVar 8) (dCons (dOp wAdd (dTup (dCons (dOp wAdd (dVar 9) (dTup (dCons (dVar 12) dNil))) dNil)) (dVar 13)) dNil)))) dNext)))))
  (dAsg (dFrz (dVar 8)) (gSet 5)))))
  (dRet (dC .non))))))

def b_law_draw : DP :=
  (dSeq (dAsg (dC (.int 2305843009213693951)) (gSet 2))
  (dSeq (dIfS (dB (dOp wLt (dOp wIxA (dVar 0) (dC (.int 2))) (dVar 1))) (dSeq (dAsg (dC (.int 0)) (gSet 3))
  (dSeq (dIfS (dB (dOp wGt (dBt wLen (dCons (dOp wIxA (dVar 0) (dC (.int 0))) dNil)) (dC (.int 0)))) (dAsg (dOp wIxA (dOp wIxA (dVar 0) (dC (.int 0))) (dOp wMod (dOp wIxA (dVar 0) (dC (.int 1))) (dBt wLen (dCons (dOp wIxA (dVar 0) (dC (.int 0))) dNil)))) (gSet 3)) dNext)
  (dSeq (dIfS (dOr (dB (dOp wGe (dOp wIxA (dVar 0) (dC (.int 1))) (dBt wLen (dCons (dOp wIxA (dVar 0) (dC (.int 0))) dNil)))) (dB (dOp wLt (dVar 3) (dOp wPow (dC (.int 10)) (dC (.int 18)))))) (dSeq (dAsg (dOp wMod (dOp wAdd (dVar 3) (dOp wMul (dC (.int 1000003)) (dOp wIxA (dVar 0) (dC (.int 1))))) (dVar 2)) (gSet 3))
  (dSeq (dAsg (dOp wMod (dOp wAdd (dOp wAdd (dOp wMul (dVar 3) (dVar 3)) (dOp wMul (dC (.int 1181783497276652981)) (dVar 3))) (dC (.int 2049848353892358983))) (dVar 2)) (gSet 3))
  (dAsg (dOp wMod (dOp wAdd (dOp wMul (dVar 3) (dVar 3)) (dC (.int 1442695040888963407))) (dVar 2)) (gSet 3)))) dNext)
  (dSeq (dAsg (dOp wAdd (dOp wIxA (dVar 0) (dC (.int 1))) (dC (.int 1))) (gSubD wSetA (dVar 0) (dC (.int 1))))
  (dAsg (dVar 3) (gSubD wSetA (dVar 0) (dC (.int 2)))))))) dNext)
  (dSeq (dAsg (dOp wMod (dOp wIxA (dVar 0) (dC (.int 2))) (dVar 1)) (gSet 4))
  (dSeq (dAsg (dOp wDiv (dOp wIxA (dVar 0) (dC (.int 2))) (dVar 1)) (gSubD wSetA (dVar 0) (dC (.int 2))))
  (dRet (dVar 4))))))

def b_law_like (Fr : FS) : DP :=
  (dSeq (dIfS (dB (dIsiA ["list", "tuple"] (dVar 0))) (dSeq (dIfS (dOr (dB (dOp wNe (dIsi "list" (dVar 0)) (dIsi "list" (dVar 1)))) (dB (dOp wNe (dIsi "tuple" (dVar 0)) (dIsi "tuple" (dVar 1))))) (dRet (dC (.bl false))) dNext)
  (dSeq (dIfS (dB (dOp wNe (dBt wLen (dCons (dVar 0) dNil)) (dBt wLen (dCons (dVar 1) dNil)))) (dRet (dC (.bl false))) dNext)
  (dRet (dOp wEq (dLc (dRg1 fun ρ Q => (dCons (dBt wLen (dCons (dVar 0) dNil)) dNil) ρ fun xs ρ' => (∀ j, xs = [.int j] → -(2 ^ 62) ≤ j) ∧ Q xs ρ') (gSet 2) (dNot (dB (dCall 2 Fr (dCons (dOp wIxA (dVar 0) (dVar 2)) (dCons (dOp wIxA (dVar 1) (dVar 2)) dNil))))) (dVar 2) [2]) (dLst dNil))))) dNext)
  (dSeq (dIfS (dB (dIsiA ["list", "tuple"] (dVar 1))) (dRet (dC (.bl false))) dNext)
  (dRet (dAndV (dOp wEq (dIsi "bool" (dVar 0)) (dIsi "bool" (dVar 1))) (dOp wEq (dVar 0) (dVar 1))))))

def b_law_any_order : DP :=
  (dSeq (dAsg (dNewL dNil) (gSet 2))
  (dSeq (dFor (dRg1 fun ρ Q => (dCons (dVar 1) dNil) ρ fun xs ρ' => (∀ j, xs = [.int j] → -(2 ^ 62) ≤ j) ∧ Q xs ρ') (gSet 3)
  (dDrop (dBm wIns (dVar 2) (dCons (dCall 2 F_law_draw (dCons (dVar 0) (dCons (dOp wAdd (dVar 3) (dC (.int 1))) dNil))) (dCons (dVar 3) dNil)))))
  (dRet (dBt wTupOf (dCons (dVar 2) dNil)))))

def b_law_spot : DP :=
  (dRet (dTup (dCons (dCall 2 F_law_draw (dCons (dVar 0) (dCons (dOp wIxA (dVar 1) (dC (.int 0))) dNil))) (dCons (dCall 2 F_law_draw (dCons (dVar 0) (dCons (dC (.int 2)) dNil))) (dCons (dCall 2 F_law_draw (dCons (dVar 0) (dCons (dOp wIxA (dVar 1) (dC (.int 1))) dNil))) dNil)))))

def b_law_stand : DP :=
  (dSeq (dIfS (dB (dOp wEq (dCall 2 F_law_draw (dCons (dVar 0) (dCons (dC (.int 4)) dNil))) (dC (.int 0)))) (dRet (dBt wTupOf (dCons (dLc (dRg1 fun ρ Q => (dCons (dOp wIxA (dVar 1) (dC (.int 0))) dNil) ρ fun xs ρ' => (∀ j, xs = [.int j] → -(2 ^ 62) ≤ j) ∧ Q xs ρ') (gSet 2) dYes (dTup (dCons (dVar 2) (dCons (dC (.int 0)) (dCons (dC (.int 0)) dNil)))) [2]) dNil))) dNext)
  (dRet (dBt wTupOf (dCons (dLc (dIt (dCall 2 F_law_any_order (dCons (dVar 0) (dCons (dOp wIxA (dVar 1) (dC (.int 0))) dNil)))) (gSet 2) dYes (dTup (dCons (dVar 2) (dCons (dCall 2 F_law_draw (dCons (dVar 0) (dCons (dC (.int 2)) dNil))) (dCons (dCall 2 F_law_draw (dCons (dVar 0) (dCons (dC (.int 2)) dNil))) dNil)))) [2]) dNil))))

def b_law_cells : DP :=
  (dSeq (dAsg (dLstRg1 (dOp wIxA (dVar 0) (dC (.int 1)))) (gSet 2))
  (dRet (dIf (dB (dOp wEq (dVar 1) (dC (.int 1)))) (dRev (dVar 2)) (dVar 2))))

def b_law_pairs : DP :=
  (dSeq (dAsg (dOp wIxA (dVar 1) (dVar 2)) (gTupD 3 (gMore (gSet 3) (gMore (gSet 4) (gMore (gSet 5) gEnd)))))
  (dSeq (dAsg (dOp wIxA (dVar 1) (dOp wAdd (dVar 2) (dC (.int 1)))) (gTupD 3 (gMore (gSet 6) (gMore (gSet 7) (gMore (gSet 8) gEnd)))))
  (dSeq (dPar 9 10 (dCons (dCall 2 F_law_cells (dCons (dVar 0) (dCons (dVar 5) dNil))) (dCons (dCall 2 F_law_cells (dCons (dVar 0) (dCons (dVar 8) dNil))) dNil)))
  (dRet (dLc (dZip (dCons (dVar 9) (dCons (dVar 10) dNil))) (gTupD 2 (gMore (gSet 11) (gMore (gSet 12) gEnd))) dYes (dTup (dCons (dTup (dCons (dVar 3) (dCons (dOp wSub (dC (.int 1)) (dVar 4)) (dCons (dVar 11) dNil)))) (dCons (dTup (dCons (dVar 6) (dCons (dVar 7) (dCons (dVar 12) dNil)))) dNil))) [11, 12])))))

def b_law_moved : DP :=
  (dSeq (dAsg (dBtN wLstN (dCons (dVar 0) dNil)) (gSet 2))
  (dSeq (dAsg (dVar 1) (gTupD 2 (gMore (gSet 3) (gMore (gSet 4) gEnd))))
  (dSeq (dIfS (dB (dOp wEq (dVar 3) (dC (.str "swap")))) (dAsg (dTup (dCons (dOp wIxA (dVar 2) (dOp wAdd (dVar 4) (dC (.int 1)))) (dCons (dOp wIxA (dVar 2) (dVar 4)) dNil))) (gTupD 2 (gMore (gSubD wSetA (dVar 2) (dVar 4)) (gMore (gSubD wSetA (dVar 2) (dOp wAdd (dVar 4) (dC (.int 1)))) gEnd)))) dNext)
  (dSeq (dIfS (dB (dOp wEq (dVar 3) (dC (.str "over")))) (dAsg (dTup (dCons (dOp wIxA (dOp wIxA (dVar 2) (dVar 4)) (dC (.int 0))) (dCons (dOp wSub (dC (.int 1)) (dOp wIxA (dOp wIxA (dVar 2) (dVar 4)) (dC (.int 1)))) (dCons (dOp wIxA (dOp wIxA (dVar 2) (dVar 4)) (dC (.int 2))) dNil)))) (gSubD wSetA (dVar 2) (dVar 4))) dNext)
  (dSeq (dIfS (dB (dOp wEq (dVar 3) (dC (.str "about")))) (dAsg (dTup (dCons (dOp wIxA (dOp wIxA (dVar 2) (dVar 4)) (dC (.int 0))) (dCons (dOp wIxA (dOp wIxA (dVar 2) (dVar 4)) (dC (.int 1))) (dCons (dOp wSub (dC (.int 1)) (dOp wIxA (dOp wIxA (dVar 2) (dVar 4)) (dC (.int 2)))) dNil)))) (gSubD wSetA (dVar 2) (dVar 4))) dNext)
  (dRet (dBt wTupOf (dCons (dVar 2) dNil))))))))

def b_law_over : DP :=
  (dSeq (dFor (dIt (dVar 0)) (gTupD 2 (gMore (gSet 2) (gMore (gSet 3) gEnd)))
  (dSeq (dIfS (dB (dOp wEq (dVar 2) (dVar 1))) (dRet (dVar 3)) dNext)
  (dIfS (dB (dOp wEq (dVar 3) (dVar 1))) (dRet (dVar 2)) dNext)))
  (dRet (dC .non)))

def b_law_deeds : DP :=
  (dSeq (dAsg (dLst dNil) (gSet 1))
  (dSeq (dFor (dIt (dLst (dCons (dTup (dCons (dC (.str "about")) (dCons (dOp wIxA (dVar 0) (dC (.int 0))) dNil))) (dCons (dTup (dCons (dC (.str "over")) (dCons (dOp wIxA (dVar 0) (dC (.int 0))) dNil))) (dCons (dTup (dCons (dC (.str "press")) (dCons (dOp wSub (dOp wIxA (dVar 0) (dC (.int 0))) (dC (.int 1))) dNil))) (dCons (dTup (dCons (dC (.str "swap")) (dCons (dOp wSub (dOp wIxA (dVar 0) (dC (.int 0))) (dC (.int 1))) dNil))) dNil)))))) (gTupD 2 (gMore (gSet 2) (gMore (gSet 3) gEnd)))
  (dAsg (dOp wAdd (dVar 1) (dLc (dRg1 fun ρ Q => (dCons (dVar 3) dNil) ρ fun xs ρ' => (∀ j, xs = [.int j] → -(2 ^ 62) ≤ j) ∧ Q xs ρ') (gSet 4) dYes (dTup (dCons (dVar 2) (dCons (dVar 4) dNil))) [4])) (gSet 1)))
  (dRet (dVar 1))))

def b_law_brought : DP :=
  (dSeq (dPar 5 6 (dCons (dLst (dCons (dTup (dCons (dLst dNil) (dCons (dVar 1) (dCons (dVar 2) dNil)))) dNil)) (dCons (dOneT (dTup (dCons (dVar 1) (dCons (dVar 2) dNil))) (dC (.bl true))) dNil)))
  (dSeq (dFor (dRg1 fun ρ Q => (dCons (dVar 4) dNil) ρ fun xs ρ' => (∀ j, xs = [.int j] → -(2 ^ 62) ≤ j) ∧ Q xs ρ') (gSet 7)
  (dSeq (dAsg (dNewL dNil) (gSet 8))
  (dSeq (dFor (dIt (dVar 5)) (gTupD 3 (gMore (gSet 9) (gMore (gSet 10) (gMore (gSet 11) gEnd))))
  (dFor (dIt (dCall 1 F_law_deeds (dCons (dVar 0) dNil))) (gSet 12)
  (dSeq (dPar 13 14 (dCons (dCall 2 F_law_moved (dCons (dVar 10) (dCons (dVar 12) dNil))) (dCons (dLst (dCons (dVar 11) dNil)) dNil)))
  (dSeq (dIfS (dB (dOp wEq (dOp wIxA (dVar 12) (dC (.int 0))) (dC (.str "press")))) (dAsg (dLst (dCons (dCall 2 F_law_over (dCons (dCall 3 F_law_pairs (dCons (dVar 0) (dCons (dVar 10) (dCons (dOp wIxA (dVar 12) (dC (.int 1))) dNil)))) (dCons (dVar 11) dNil))) dNil)) (gSet 14)) dNext)
  (dSeq (dIfS (dB (dOp wEq (dVar 14) (dLst (dCons (dVar 3) dNil)))) (dRet (dOp wAdd (dVar 9) (dLst (dCons (dVar 12) dNil)))) dNext)
  (dIfS (dAnd (dB (dOp wNe (dVar 14) (dLst (dCons (dC .non) dNil)))) (dB (dOp (wIn true) (dTup (dCons (dVar 13) (dCons (dOp wIxA (dVar 14) (dC (.int 0))) dNil))) (dVar 6)))) (dSeq (dAsg (dC (.bl true)) (gSubD wSetA (dVar 6) (dTup (dCons (dVar 13) (dCons (dOp wIxA (dVar 14) (dC (.int 0))) dNil)))))
  (dDrop (dBm wApp (dVar 8) (dCons (dTup (dCons (dOp wAdd (dVar 9) (dLst (dCons (dVar 12) dNil))) (dCons (dVar 13) (dCons (dOp wIxA (dVar 14) (dC (.int 0))) dNil)))) dNil)))) dNext))))))
  (dAsg (dFrz (dVar 8)) (gSet 5)))))
  (dRet (dC .non))))

def t_bring : DT := (dB (dOp wGt (dBt wMaxT (dCons (dVar 0) dNil)) (dC (.int (3)))))

end BB
set_option maxRecDepth 100000
set_option maxHeartbeats 1000000
namespace BB
open PySem PySem.Spec PyProof.Rows L2
local macro_rules | `(tactic| walk_at "d") => `(tactic| simp only [ap_var, ap_c, ap_op, ap_b, ap_chain, ap_isN, ap_notN, ap_not, ap_and, ap_or, ap_notV, ap_andV, ap_orV, ap_if, ap_nil, ap_cons, ap_tup, ap_lst, ap_newL, ap_call, ap_bt, ap_bm, ap_sl, ap_no, ap_some, ap_rev, ap_frz, ap_get2, ap_oneT, ap_newT, ap_newS, ap_dictNew, ap_isi, ap_gset, ap_gend, ap_gmore, ap_gtup, ap_gtup3, ap_gsub, ap_next, ap_seq, ap_drop, ap_ret, ap_retN, ap_brk, ap_cont, ap_ifS, ap_asg, ap_par, ap_par3, ap_aug, ap_onx, ap_ort, ap_it, ap_enum, ap_items, ap_rg1, ap_rg2, ap_zip, ap_eq, ap_ne, ap_i2, ap_arI, ap_addI, ap_addT, ap_addL, ap_ixT, ap_ixL, ap_ix3, ap_wlen, ap_wtup, ap_btN, ap_isiA, ap_lstRg, ap_ixMk, ap_min2, ap_max2, ap_ixDr, ap_gtupDr2, ap_gtupE, ex_at0, ex_at1, ex_at2, ex_bl, ex_int, ex_sli, ex_som, ex_ptr, ex_l1i, ex_l1l, al_l1i, ex_one,
  List.getElem?_cons_zero, List.getElem?_cons_succ, List.set_cons_zero, List.set_cons_succ, List.length_cons, List.length_nil, deq_int, deq_str, deq_e3, vw_e3, vw_i, vw_t, vw_l, vw_s, vw_n, vw_b, true_and, and_true, sh_i64, sh_n64, List.nil_append, List.cons_append, isN_n, isN_i, isN_t, isN_l, isN_b, isN_p, isNon_e3, Bool.not_false, Bool.not_true, if_true, if_false, Bool.false_eq_true, decide_eq_true_eq, ite_true, ite_false, Bool.not_eq_true', decide_eq_false_iff_not, vw_sh, vw_st, ap_ixSh, ap_ixD, ap_ixSt, sh_t3, ap_gtupD, vw_eD, wipeD, reduceIte, Bool.true_eq_false])
theorem kit_ii : isiD "int" (.int 0) = some true := by decide +kernel
theorem zip_cut : ∀ (xs ys : List Int), zipD (xs.map .int) (ys.map .int) = (xs.zip ys).map fun p => .tup [.int p.1, .int p.2]
  | [], _ => by simp [zipD]
  | _ :: _, [] => by simp [zipD]
  | x :: xs, y :: ys => by simp [zipD, zip_cut xs ys]
theorem cut_from {α : Type} (f : α → D) (xs : List α) (k : Nat) : cutD (xs.map f) (some (k : Int)) none = (xs.drop k).map f := by
  unfold cutD
  rw [HT.sIx_nat, HT.sIx_none, List.length_map]
  by_cases h : k ≤ xs.length
  · rw [Nat.min_eq_left h, List.take_of_length_le (by simp), List.map_drop]
  · rw [Nat.min_eq_right (by omega), List.drop_eq_nil_of_le (by simp), List.drop_eq_nil_of_le (by omega)]; simp
theorem cut_to {α : Type} (f : α → D) (xs : List α) (k : Nat) : cutD (xs.map f) none (some (k : Int)) = (xs.take k).map f := by
  unfold cutD
  rw [HT.sIx_nat, HT.sIx_none, List.length_map, List.drop_zero, Nat.sub_zero]
  by_cases h : k ≤ xs.length
  · rw [Nat.min_eq_left h, List.map_take]
  · rw [Nat.min_eq_right (by omega), List.take_of_length_le (by simp), List.take_of_length_le (by omega)]
theorem sp_far_from_back : ∀ (ds : List D) st' Q, ds.length = 3 → WfS st' → F_far_from_back ds st' Q → b_far_from_back (endsOf st'.length Q) ⟨startD 3 ds, st'⟩ := by
  rintro ds st Q hl wf ⟨L, C, a, c, rfl, h⟩
  show b_far_from_back _ ⟨[some (eSh L C), some (.int a), some (.int c)], st⟩
  unfold b_far_from_back
  walk_at "d"
  refine ite_dec (fun h1 => ?_) (fun h1 => ?_)
  · exact ret_same wf (bel_int _ _) (by unfold ffb at h; rw [if_pos h1] at h; exact h)
  · exact ret_same wf (bel_int _ _) (by unfold ffb at h; rw [if_neg h1] at h; exact h)
theorem sp_touched : ∀ (ds : List D) st' Q, ds.length = 3 → WfS st' → F_touched ds st' Q → b_touched (endsOf st'.length Q) ⟨startD 15 ds, st'⟩ := by
  rintro ds st Q hl wf ⟨L, C, s, sp, g, p, rfl, h1, h2, h⟩
  show b_touched _ ⟨[some (eSh L C), some (eSt s), some (e3 sp), none, none, none, none, none, none, none, none, none, none, none, none], st⟩
  unfold b_touched
  walk_at "d"
  refine dLc_map (α := T3) (l := s) (e := e3) (f := fun p => .int p.1) (fun L hL => ?_) (fun p hp P hP => ?_) ?_
  · walk_at "d"
    exact hL
  · walk_at "d"
    exact hP _ rfl
  · walk_at "d"
    refine ⟨⟨_, rfl⟩, s.map fun p => .int p.1, _, g, rfl, rfl, sh_mapL fun p _ => sh_int _ _, sh_int _ _, ?_, ?_⟩
    · unfold idxD
      rw [List.findIdx?_map]
      exact h1
    · walk_at "d"
      rw [ex_st h2]
      have hg : g < s.length := (List.getElem?_eq_some_iff.mp h2).1
      rw [show vw st (e3 p) = .tup [.int p.1, .int p.2.1, .int p.2.2] from rfl]
      walk_at "d"
      rw [show cutD [.int p.1, .int p.2.1, .int p.2.2] (some 1) none = [.int p.2.1, .int p.2.2] from rfl]
      walk_at "d"
      unfold touchM at h
      refine ite_dec (fun h4 => ?_) (fun h4 => ?_)
      all_goals
        first
          | (rw [if_pos h4] at h; generalize (g : Int) - 1 = o at h ⊢)
          | (rw [if_neg h4] at h; generalize (g : Int) + 1 = o at h ⊢)
        simp only at h
        simp only [List.length_map]
        refine ite_dec (fun h0 => ?_) (fun h0 => ?_)
        · refine ite_dec (fun h3 => ?_) (fun h3 => ?_)
          · rw [if_neg (fun z => h3 z.2)] at h
            exact ret_same wf (bel_non _) h
          · have h3 : o < (s.length : Int) := by omega
            rw [if_pos ⟨h0, h3⟩] at h
            obtain ⟨n, rfl⟩ := Int.eq_ofNat_of_zero_le h0
            have hn : n < s.length := by omega
            rw [ex_st (List.getElem?_eq_getElem hn)]
            walk_at "d"
            rw [atI_nat _ _ hn] at h
            refine ite_dec (fun h4 => ?_) (fun h4 => ?_)
            · refine ⟨L, C, _, _, rfl, L, C, _, _, rfl, ?_⟩
              have h : Q (e3 (s[n].1, (if (n : Int) < (g : Int) then 1 - s[n].2.1 else s[n].2.1), ffb C s[n].2.2 (ffb C p.2.2 sp.2.2))) st := h
              rw [if_pos h4] at h
              exact ⟨by decide, ret_same wf (bel_e3 _ (_, _, _)) h⟩
            · refine ⟨L, C, _, _, rfl, L, C, _, _, rfl, ?_⟩
              have h : Q (e3 (s[n].1, (if (n : Int) < (g : Int) then 1 - s[n].2.1 else s[n].2.1), ffb C s[n].2.2 (ffb C p.2.2 sp.2.2))) st := h
              rw [if_neg h4] at h
              exact ⟨by decide, ret_same wf (bel_e3 _ (_, _, _)) h⟩
        · rw [if_neg (fun z => h0 z.1)] at h
          exact ret_same wf (bel_non _) h
theorem dFor_ints {di : DI} {g : DG} {b : DP} {P : DEnds} {ρ : DS} (n : Nat) (W : Nat → DS → Prop) (hdi : ∀ L : List D → DS → Prop, L (intsD 0 n) ρ → di ρ L) (h0 : W 0 ρ)
    (step : ∀ (i : Nat) (ρ' : DS), i < n → W i ρ' → g (.int (i : Int)) ρ' fun ρ2 => b { P with nx := W (i + 1), ct := W (i + 1), bk := P.nx } ρ2) (fin : ∀ ρ', W n ρ' → P.nx ρ') : dFor di g b P ρ := by
  refine hdi _ ⟨W, h0, fun i x ρ' hx hw => ?_, fun ρ' hw => fin ρ' (by rw [intsD_length] at hw; exact hw)⟩
  rw [intsD_get] at hx
  by_cases hi : i < n
  · rw [if_pos hi] at hx
    cases hx
    have := step i ρ' hi hw
    rw [Int.zero_add]
    exact this
  · rw [if_neg hi] at hx; cases hx
theorem leafIx_nd : ∀ {s : Stand} {g : Nat} {p : T3}, (s.map (·.1)).Nodup → s[g]? = some p → leafIx s p.1 = some g
  | q :: s, 0, p, hn, h => by
    simp only [List.getElem?_cons_zero, Option.some.injEq] at h
    subst h
    simp [leafIx, List.findIdx?_cons]
  | q :: s, g + 1, p, hn, h => by
    rw [List.getElem?_cons_succ] at h
    rw [List.map_cons, List.nodup_cons] at hn
    have ne : q.1 ≠ p.1 := fun e => hn.1 (by rw [e]; exact List.mem_map_of_mem (f := fun x : T3 => x.1) (List.mem_of_getElem? h))
    have := leafIx_nd hn.2 h
    unfold leafIx at this ⊢
    rw [List.findIdx?_cons, if_neg (by simpa using ne), this]; rfl
theorem sp_pairs_at : ∀ (ds : List D) st' Q, ds.length = 3 → WfS st' → F_pairs_at ds st' Q → b_pairs_at (endsOf st'.length Q) ⟨startD 9 ds, st'⟩ := by
  rintro ds st Q hl wf ⟨L, C, s, g, p, q, rfl, h1, h2, hnd, hov, hC, h⟩
  show b_pairs_at _ ⟨[some (eSh L C), some (eSt s), some (.int (g : Int)), none, none, none, none, none, none], st⟩
  unfold b_pairs_at
  walk_at "d"
  rw [ex_st h1]
  walk_at "d"
  refine ⟨by decide, ?_⟩
  refine dFor_ints C (fun i ρ' => ∃ x y, ρ' = ⟨[some (eSh L C), some (eSt s), some (.int (g : Int)), some (.int p.1), some (.int p.2.1), some (.int p.2.2), some (.ptr st.length), x, y], st ++ [.lst ((pairsM C p q).take i |>.map ePr)]⟩) (fun L hL => ?_) ⟨none, none, by simp⟩ ?_ ?_
  · walk_at "d"
    refine ⟨by omega, by omega, ?_⟩
    rw [Int.toNat_natCast]
    exact hL
  · rintro i ρ' hi ⟨x, y, rfl⟩
    walk_at "d"
    have hl' : leafIx s p.1 = some g := leafIx_nd hnd h1
    have hgs : g + 1 < s.length := (List.getElem?_eq_some_iff.mp h2).1
    have htm : touchM C s (p.1, 1 - p.2.1, (i : Int)) g p = some (q.1, q.2.1, ffb C q.2.2 (ffb C p.2.2 (i : Int))) := by
      unfold touchM
      have hne : ¬ (1 - p.2.1 = p.2.1) := by omega
      simp only [if_neg hne]
      rw [if_pos ⟨by omega, by omega⟩, show ((g : Int) + 1) = ((g + 1 : Nat) : Int) from by omega, atI_nat _ _ hgs]
      have : s[g + 1] = q := (List.getElem?_eq_some_iff.mp h2).2
      simp only [Option.map_some, this]
      rw [if_neg (by omega)]
    refine ⟨by decide, isL_new, L, C, s, (p.1, 1 - p.2.1, (i : Int)), g, p, rfl, hl', h1, ?_⟩
    rw [htm]
    have e1 : (pairsM C p q).take (i + 1) = (pairsM C p q).take i ++ [((p.1, 1 - p.2.1, (i : Int)), (q.1, q.2.1, ffb C q.2.2 (ffb C p.2.2 (i : Int))))] := by
      rw [List.take_succ, show (pairsM C p q)[i]? = some ((p.1, 1 - p.2.1, (i : Int)), (q.1, q.2.1, ffb C q.2.2 (ffb C p.2.2 (i : Int)))) by simp [pairsM, hi]]
      rfl
    refine ⟨by decide, wApp_new (by have := sz1000; simp [pairsM]; omega) ?_⟩
    rw [e1, List.map_append]
    exact ⟨_, _, rfl⟩
  · rintro ρ' ⟨x, y, rfl⟩
    walk_at "d"
    rw [app_get]
    simp only [app_set]
    rw [List.take_of_length_le (by simp [pairsM])]
    exact ret_app wf (bel_ePrs _ _) h
theorem sh_word : ∀ d : Deed, sh 64 (.str d.word)
  | .press _ => sh_str' 64 "press" (by decide +kernel)
  | .swap _ => sh_str' 64 "swap" (by decide +kernel)
  | .over _ => sh_str' 64 "over" (by decide +kernel)
  | .about _ => sh_str' 64 "about" (by decide +kernel)
  | .wait _ => sh_str' 64 "wait" (by decide +kernel)
theorem wd_eq : (∀ n, (Deed.wait n).word = ("wait" : Str)) := fun _ => rfl
theorem ne_pw : ("press" : Str) ≠ "wait" := by decide +kernel
theorem ne_sw : ("swap" : Str) ≠ "wait" := by decide +kernel
theorem ne_ow : ("over" : Str) ≠ "wait" := by decide +kernel
theorem ne_aw : ("about" : Str) ≠ "wait" := by decide +kernel
theorem sh_wait : sh 64 (.str "wait") := sh_word (.wait 0)
theorem sp_takes : ∀ (ds : List D) st' Q, ds.length = 1 → WfS st' → F_takes ds st' Q → b_takes (endsOf st'.length Q) ⟨startD 1 ds, st'⟩ := by
  rintro ds st Q hl wf ⟨d, rfl, h⟩
  show b_takes _ ⟨[some (eD d)], st⟩
  unfold b_takes
  walk_at "d"
  refine ⟨sh_word d, sh_wait, ?_⟩
  refine ite_dec (fun h1 => ?_) (fun h1 => ?_)
  · cases d with
    | wait n => exact ret_same wf (bel_int _ _) h
    | press n => exact absurd h1 ne_pw
    | swap n => exact absurd h1 ne_sw
    | over n => exact absurd h1 ne_ow
    | about n => exact absurd h1 ne_aw
  · cases d with
    | wait n => exact absurd rfl h1
    | _ => exact ret_same wf (bel_int _ _) h
theorem swapM_eq : ∀ (s : List T3) (n : Nat) (h : n + 1 < s.length), swapM s n = s.take n ++ [s[n + 1], s[n]] ++ s.drop (n + 2)
  | x :: y :: l, 0, h => by simp [swapM]
  | x :: l, n + 1, h => by
    have h' : n + 1 < l.length := by simpa using h
    rw [swapM, swapM_eq l n h']
    simp
  | [x], 0, h => by simp at h
  | [], _, h => by simp at h
theorem modM_eq (f : T3 → T3) : ∀ (s : List T3) (n : Nat) (h : n < s.length), modM f s n = s.take n ++ [f s[n]] ++ s.drop (n + 1)
  | x :: l, 0, h => by simp [modM]
  | x :: l, n + 1, h => by
    have h' : n < l.length := by simpa using h
    rw [modM, modM_eq f l n h']
    simp
  | [], _, h => by simp at h
theorem sh_ws (w : Str) (h : PyData.canLay0 (.str w) = true) : sh 64 (.str w) := sh_str' _ _ h
theorem sh_over : sh 64 (.str "over") := sh_word (.over 0)
theorem sh_about : sh 64 (.str "about") := sh_word (.about 0)
theorem sh_swap : sh 64 (.str "swap") := sh_word (.swap 0)
theorem sh_press : sh 64 (.str "press") := sh_word (.press 0)
theorem sh_oa : sh 64 (.tup [.str "over", .str "about"]) := (sh_tup 63 _).mpr fun d hd => by
  simp only [List.mem_cons, List.not_mem_nil, or_false] at hd
  rcases hd with rfl | rfl
  · exact sh_str' _ _ (by decide +kernel)
  · exact sh_str' _ _ (by decide +kernel)
theorem ap_inT {st : List Cell} {Z : D → Prop} {neg : Bool} {x : D} {ds : List D} : wIn neg x (.tup ds) st Z = (sh 64 (vw st x) ∧ sh 64 (.tup ds) ∧ Z (.bl ((ds.any fun z => deq z (vw st x)) != neg))) := rfl
theorem sp_moved : ∀ (ds : List D) st' Q, ds.length = 2 → WfS st' → F_moved ds st' Q → b_moved (endsOf st'.length Q) ⟨startD 8 ds, st'⟩ := by
  rintro ds st Q hl wf ⟨s, d, rfl, ok, hs, h⟩
  show b_moved _ ⟨[some (eSt s), some (eD d), none, none, none, none, none, none], st⟩
  unfold b_moved
  walk_at "d"
  refine ⟨sh_word d, sh_swap, ?_⟩
  simp only [ap_inT]
  walk_at "d"
  have sz := sz1000
  cases d with
  | swap n =>
    refine (if_pos rfl).mpr ?_
    have hn : n + 1 < s.length := ok
    show ∃ x, atI (s.map e3) ((n : Int) + 1) = some x ∧ _
    rw [show ((n : Int) + 1) = ((n + 1 : Nat) : Int) from by omega, ex_st (List.getElem?_eq_getElem hn)]
    show ∃ x, atI (s.map e3) (n : Int) = some x ∧ _
    rw [ex_st (List.getElem?_eq_getElem (show n < s.length by omega))]
    simp only [show (Deed.swap n).num = n from rfl]
    rw [show ((n : Int) + 2) = ((n + 2 : Nat) : Int) from by omega, cut_to, cut_from]
    refine ⟨by decide, by simp; omega, by simp; omega, ret_same wf ?_ ?_⟩
    all_goals
      have e : (.tup (((s.take n).map e3 ++ [e3 s[n + 1], e3 s[n]]) ++ (s.drop (n + 2)).map e3) : D) = eSt (movedM s (.swap n)) := by
        show _ = D.tup ((swapM s n).map e3)
        rw [swapM_eq s n hn]; simp
    · rw [e]; exact bel_st _ _
    · rw [e]; exact h
  | press n =>
    refine (if_neg (show ¬ (("press" : Str) = "swap") by decide +kernel)).mpr ?_
    refine ⟨by decide, sh_press, sh_oa, ?_⟩
    refine (if_pos (show (([D.str "over", D.str "about"].any fun z => deq z (D.str "press")) != true) = true by decide +kernel)).mpr ?_
    exact ret_same wf (bel_st _ _) h
  | wait n =>
    refine (if_neg (show ¬ (("wait" : Str) = "swap") by decide +kernel)).mpr ?_
    refine ⟨by decide, sh_wait, sh_oa, ?_⟩
    refine (if_pos (show (([D.str "over", D.str "about"].any fun z => deq z (D.str "wait")) != true) = true by decide +kernel)).mpr ?_
    exact ret_same wf (bel_st _ _) h
  | over n =>
    refine (if_neg (show ¬ (("over" : Str) = "swap") by decide +kernel)).mpr ?_
    refine ⟨by decide, sh_over, sh_oa, ?_⟩
    refine (if_neg (show ¬ (([D.str "over", D.str "about"].any fun z => deq z (D.str "over")) != true) = true by decide +kernel)).mpr ?_
    have hn : n < s.length := ok
    show ∃ x, atI (s.map e3) (n : Int) = some x ∧ _
    rw [ex_st (List.getElem?_eq_getElem hn)]
    walk_at "d"
    refine ⟨sh_over, sh_over, ?_⟩
    refine (if_pos rfl).mpr ?_
    simp only [show (Deed.over n).num = n from rfl]
    rw [show ((n : Int) + 1) = ((n + 1 : Nat) : Int) from by omega, cut_to, cut_from]
    refine ⟨by decide, by decide, by simp; omega, by simp; omega, ret_same wf ?_ ?_⟩
    all_goals
      have e : (.tup (((s.take n).map e3 ++ [.tup [.int s[n].1, .int (1 - s[n].2.1), .int s[n].2.2]]) ++ (s.drop (n + 1)).map e3) : D) = eSt (movedM s (.over n)) := by
        show _ = D.tup ((modM (fun p => (p.1, 1 - p.2.1, p.2.2)) s n).map e3)
        rw [modM_eq _ s n hn]; simp [e3]
    · rw [e]; exact bel_st _ _
    · rw [e]; exact h
  | about n =>
    refine (if_neg (show ¬ (("about" : Str) = "swap") by decide +kernel)).mpr ?_
    refine ⟨by decide, sh_about, sh_oa, ?_⟩
    refine (if_neg (show ¬ (([D.str "over", D.str "about"].any fun z => deq z (D.str "about")) != true) = true by decide +kernel)).mpr ?_
    have hn : n < s.length := ok
    show ∃ x, atI (s.map e3) (n : Int) = some x ∧ _
    rw [ex_st (List.getElem?_eq_getElem hn)]
    walk_at "d"
    refine ⟨sh_about, sh_over, ?_⟩
    refine (if_neg (show ¬ (("about" : Str) = "over") by decide +kernel)).mpr ?_
    simp only [show (Deed.about n).num = n from rfl]
    rw [show ((n : Int) + 1) = ((n + 1 : Nat) : Int) from by omega, cut_to, cut_from]
    refine ⟨by decide, by decide, by simp; omega, by simp; omega, ret_same wf ?_ ?_⟩
    all_goals
      have e : (.tup (((s.take n).map e3 ++ [.tup [.int s[n].1, .int s[n].2.1, .int (1 - s[n].2.2)]]) ++ (s.drop (n + 1)).map e3) : D) = eSt (movedM s (.about n)) := by
        show _ = D.tup ((modM (fun p => (p.1, p.2.1, 1 - p.2.2)) s n).map e3)
        rw [modM_eq _ s n hn]; simp [e3]
    · rw [e]; exact bel_st _ _
    · rw [e]; exact h
theorem swapM_len : ∀ (s : List T3) (n : Nat), (swapM s n).length = s.length
  | x :: y :: l, 0 => by simp [swapM]
  | x :: l, n + 1 => by
    rw [swapM]
    simp [swapM_len l n]
  | [x], 0 => by simp [swapM]
  | [], _ => by simp [swapM]
theorem modM_len (f : T3 → T3) : ∀ (s : List T3) (n : Nat), (modM f s n).length = s.length
  | x :: l, 0 => by simp [modM]
  | x :: l, n + 1 => by simp [modM, modM_len f l n]
  | [], _ => by simp [modM]
theorem movedM_len (s : Stand) (d : Deed) : (movedM s d).length = s.length := by
  cases d with
  | swap n => exact swapM_len _ _
  | over n => exact modM_len _ _ _
  | about n => exact modM_len _ _ _
  | _ => rfl
theorem behindM_len : ∀ (r : List Deed) (s : Stand), (behindM s r).length = s.length
  | [], s => rfl
  | d :: r, s => by
    show (behindM (movedM s d) r).length = s.length
    rw [behindM_len r, movedM_len]
theorem behindM_snoc (s : Stand) (r : List Deed) (d : Deed) : behindM s (r ++ [d]) = movedM (behindM s r) d := by simp [behindM]
end BB
set_option maxRecDepth 100000
set_option maxHeartbeats 1000000
namespace BB
open PySem PySem.Spec PyProof.Rows L2
local macro_rules | `(tactic| walk_at "d") => `(tactic| simp only [ap_var, ap_c, ap_op, ap_b, ap_chain, ap_isN, ap_notN, ap_not, ap_and, ap_or, ap_notV, ap_andV, ap_orV, ap_if, ap_nil, ap_cons, ap_tup, ap_lst, ap_newL, ap_call, ap_bt, ap_bm, ap_sl, ap_no, ap_some, ap_rev, ap_frz, ap_get2, ap_oneT, ap_newT, ap_newS, ap_dictNew, ap_isi, ap_gset, ap_gend, ap_gmore, ap_gtup, ap_gtup3, ap_gsub, ap_next, ap_seq, ap_drop, ap_ret, ap_retN, ap_brk, ap_cont, ap_ifS, ap_asg, ap_par, ap_par3, ap_aug, ap_onx, ap_ort, ap_it, ap_enum, ap_items, ap_rg1, ap_rg2, ap_zip, ap_eq, ap_ne, ap_i2, ap_arI, ap_addI, ap_addT, ap_addL, ap_ixT, ap_ixL, ap_ix3, ap_wlen, ap_wtup, ap_btN, ap_isiA, ap_lstRg, ap_ixMk, ap_min2, ap_max2, ap_ixDr, ap_gtupDr2, ap_gtupE, ex_at0, ex_at1, ex_at2, ex_bl, ex_int, ex_sli, ex_som, ex_ptr, ex_l1i, ex_l1l, al_l1i, ex_one,
  List.getElem?_cons_zero, List.getElem?_cons_succ, List.set_cons_zero, List.set_cons_succ, List.length_cons, List.length_nil, deq_int, deq_str, deq_e3, vw_e3, vw_i, vw_t, vw_l, vw_s, vw_n, vw_b, true_and, and_true, sh_i64, sh_n64, List.nil_append, List.cons_append, isN_n, isN_i, isN_t, isN_l, isN_b, isN_p, isNon_e3, Bool.not_false, Bool.not_true, if_true, if_false, Bool.false_eq_true, decide_eq_true_eq, ite_true, ite_false, Bool.not_eq_true', decide_eq_false_iff_not, vw_sh, vw_st, ap_ixSh, ap_ixD, ap_ixSt, sh_t3, ap_gtupD, vw_eD, wipeD, reduceIte, Bool.true_eq_false])
def enumN {α : Type} : Nat → List α → List (Nat × α)
  | _, [] => []
  | n, a :: l => (n, a) :: enumN (n + 1) l
theorem enumD_map {α : Type} (e : α → D) : ∀ (n : Nat) (l : List α), enumD n (l.map e) = (enumN n l).map fun p => .tup [.int (p.1 : Int), e p.2]
  | _, [] => rfl
  | n, a :: l => by rw [List.map_cons, enumD, enumN, List.map_cons, enumD_map e (n + 1) l]
theorem enumN_snd {α : Type} : ∀ (n : Nat) (l : List α), (enumN n l).map (·.2) = l
  | _, [] => rfl
  | n, a :: l => by rw [enumN, List.map_cons, enumN_snd (n + 1) l]
theorem enumN_at {α : Type} : ∀ (n : Nat) (l : List α) (done : List (Nat × α)) (a : Nat × α) (rest : List (Nat × α)), enumN n l = done ++ a :: rest → a.1 = n + done.length
  | _, [], done, a, rest, h => by
    cases done <;> simp [enumN] at h
  | n, b :: l, [], a, rest, h => by
    simp only [enumN, List.nil_append, List.cons.injEq] at h
    rw [← h.1]; simp
  | n, b :: l, c :: done, a, rest, h => by
    simp only [enumN, List.cons_append, List.cons.injEq] at h
    have := enumN_at (n + 1) l done a rest h.2
    rw [this, List.length_cons]; omega
theorem swapM_perm {α : Type} : ∀ (s : List α) (n : Nat), (swapM s n).Perm s
  | x :: y :: l, 0 => by rw [swapM]; exact List.Perm.swap x y l
  | x :: l, n + 1 => by
    rw [swapM]
    exact (swapM_perm l n).cons x
  | [x], 0 => by simp [swapM]
  | [], _ => by simp [swapM]
theorem modM_mem {α : Type} {f : α → α} : ∀ {s : List α} {n : Nat} {p : α}, p ∈ modM f s n → p ∈ s ∨ ∃ q ∈ s, p = f q
  | x :: l, 0, p, h => by
    rw [modM] at h
    rcases List.mem_cons.mp h with h | h
    · exact .inr ⟨x, List.mem_cons_self, h⟩
    · exact .inl (List.mem_cons_of_mem _ h)
  | x :: l, n + 1, p, h => by
    rw [modM] at h
    rcases List.mem_cons.mp h with h | h
    · exact .inl (by rw [h]; exact List.mem_cons_self)
    · rcases modM_mem h with h | ⟨q, hq, e⟩
      · exact .inl (List.mem_cons_of_mem _ h)
      · exact .inr ⟨q, List.mem_cons_of_mem _ hq, e⟩
  | [], _, p, h => by simp [modM] at h
theorem modM_map {α β : Type} {f : α → α} {g : α → β} (hg : ∀ x, g (f x) = g x) : ∀ (s : List α) (n : Nat), (modM f s n).map g = s.map g
  | x :: l, 0 => by simp [modM, hg]
  | x :: l, n + 1 => by simp [modM, modM_map hg l n]
  | [], _ => by simp [modM]
theorem OkStand.moved {s : Stand} (h : OkStand s) (d : Deed) : OkStand (movedM s d) := by
  cases d with
  | press n => exact h
  | wait n => exact h
  | swap n =>
    have p := swapM_perm s n
    exact ⟨(p.map _).nodup_iff.mpr h.nd, fun q hq => h.ov q (p.mem_iff.mp hq), fun q hq => h.ab q (p.mem_iff.mp hq), by rw [movedM_len]; exact h.sz⟩
  | over n =>
    refine ⟨(modM_map (f := fun p : T3 => (p.1, 1 - p.2.1, p.2.2)) (g := fun p : T3 => p.1) (fun _ => rfl) s n).symm ▸ h.nd, fun q hq => ?_, fun q hq => ?_, by rw [movedM_len]; exact h.sz⟩
    · rcases modM_mem hq with z | ⟨p, hp, rfl⟩
      · exact h.ov q z
      · have := h.ov p hp
        show 1 - p.2.1 = 0 ∨ 1 - p.2.1 = 1
        omega
    · rcases modM_mem hq with z | ⟨p, hp, rfl⟩
      · exact h.ab q z
      · exact h.ab p hp
  | about n =>
    refine ⟨(modM_map (f := fun p : T3 => (p.1, p.2.1, 1 - p.2.2)) (g := fun p : T3 => p.1) (fun _ => rfl) s n).symm ▸ h.nd, fun q hq => ?_, fun q hq => ?_, by rw [movedM_len]; exact h.sz⟩
    · rcases modM_mem hq with z | ⟨p, hp, rfl⟩
      · exact h.ov q z
      · exact h.ov p hp
    · rcases modM_mem hq with z | ⟨p, hp, rfl⟩
      · exact h.ab q z
      · have := h.ab p hp
        show 1 - p.2.2 = 0 ∨ 1 - p.2.2 = 1
        omega
theorem OkStand.behind : ∀ {r : List Deed} {s : Stand}, OkStand s → OkStand (behindM s r)
  | [], s, h => h
  | d :: r, s, h => OkStand.behind (r := r) (h.moved d)
theorem ticksM_snoc (r : List Deed) (d : Deed) : ticksM (r ++ [d]) = ticksM r + takesM d := by simp [ticksM]
def evOf (C : Nat) (s : Stand) (a : Nat) (t : Int) (d : Deed) : List Ev := match isPress d with
  | some k => [(a, t, pairsAt C s k)]
  | none => []
theorem pressM_snoc (C : Nat) : ∀ (r : List Deed) (s : Stand) (a : Nat) (t : Int) (d : Deed), pressM C s a t (r ++ [d]) = pressM C s a t r ++ evOf C (behindM s r) (a + r.length) (t + ticksM r) d
  | [], s, a, t, d => by simp [pressM, evOf, behindM, ticksM] <;> rfl
  | c :: r, s, a, t, d => by
    have := pressM_snoc C r (movedM s c) (a + 1) (t + takesM c) d
    rw [List.cons_append, pressM, this, pressM, List.append_assoc]
    congr 2
    have e1 : a + 1 + r.length = a + (c :: r).length := by simp; omega
    have e2 : t + takesM c + ticksM r = t + ticksM (c :: r) := by simp [ticksM]; omega
    rw [e1, e2]; rfl
theorem pressM_len (C : Nat) : ∀ (r : List Deed) (s : Stand) (a : Nat) (t : Int), (pressM C s a t r).length ≤ r.length
  | [], s, a, t => by simp [pressM]
  | c :: r, s, a, t => by
    rw [pressM, List.length_append, List.length_cons]
    have := pressM_len C r (movedM s c) (a + 1) (t + takesM c)
    cases isPress c <;> simp <;> omega
theorem pairsAt_eq {C : Nat} {s : Stand} {k : Nat} (h : k + 1 < s.length) : pairsAt C s k = pairsM C s[k] s[k + 1] := by
  unfold pairsAt
  rw [List.getElem?_eq_getElem (show k < s.length by omega), List.getElem?_eq_getElem h]
theorem ne_press : ∀ d : Deed, isPress d = none → d.word ≠ ("press" : Str)
  | .press _, h => nomatch h
  | .swap _, _ => (show ("swap" : Str) ≠ "press" by decide +kernel)
  | .over _, _ => (show ("over" : Str) ≠ "press" by decide +kernel)
  | .about _, _ => (show ("about" : Str) ≠ "press" by decide +kernel)
  | .wait _, _ => (show ("wait" : Str) ≠ "press" by decide +kernel)
theorem sp_presses : ∀ (ds : List D) st' Q, ds.length = 3 → WfS st' → F_presses ds st' Q → b_presses (endsOf st'.length Q) ⟨startD 7 ds, st'⟩ := by
  rintro ds st Q hl wf ⟨L, C, s, r, rfl, ok, h⟩
  show b_presses _ ⟨[some (eSh L C), some (eSt s), some (eR r), none, none, none, none], st⟩
  unfold b_presses
  walk_at "d"
  refine ⟨by decide, ?_⟩
  refine dFor_pre (e := fun p : Nat × Deed => .tup [.int (p.1 : Int), eD p.2]) (l := enumN 0 r)
    (fun done ρ' => ∃ x y, ρ' = ⟨[some (eSh L C), some (eSt (behindM s (done.map (·.2)))), some (eR r), some (.ptr st.length), some (.int (ticksM (done.map (·.2)))), x, y], st ++ [.lst ((pressM C s 0 0 (done.map (·.2))).map eEv)]⟩) (fun L hL => ?_) ⟨_, _, rfl⟩ ?_ ?_
  · walk_at "d"
    refine ⟨_, rfl, ?_⟩
    rw [enumD_map]
    exact hL
  · rintro done ⟨i, d⟩ rest ρ' er ⟨x, y, rfl⟩
    have hi : i = done.length := by have := enumN_at 0 r done (i, d) rest er; simpa using this
    have hr : r = done.map (·.2) ++ d :: rest.map (·.2) := by
      have := congrArg (List.map (·.2)) er
      rw [enumN_snd] at this
      rw [this]; simp
    have hsz : (done.map (·.2)).length ≤ r.length := by
      have := congrArg List.length hr
      simp only [List.length_append] at this
      omega
    have okd : okDeed (behindM s (done.map (·.2))).length d := by
      rw [behindM_len]
      exact ok.row d (by rw [hr]; simp)
    have okS : OkStand (behindM s (done.map (·.2))) := ok.st.behind
    have rest_ : ∀ evs : List Ev, evs = pressM C s 0 0 ((done ++ [(i, d)]).map (·.2)) →
        F_moved [eSt (behindM s (done.map (·.2))), eD d] (st ++ [.lst (evs.map eEv)]) fun z st_1 => F_takes [eD d] st_1 fun z_1 st_2 =>
          ∃ m, z_1 = .int m ∧ ∃ x y, (⟨[some (eSh L C), some z, some (eR r), some (.ptr st.length), some (.int (ticksM (done.map (·.2)) + m)), some (.int (i : Int)), some (eD d)], st_2⟩ : DS) =
            ⟨[some (eSh L C), some (eSt (behindM s ((done ++ [(i, d)]).map (·.2)))), some (eR r), some (.ptr st.length), some (.int (ticksM ((done ++ [(i, d)]).map (·.2)))), x, y], st ++ [.lst ((pressM C s 0 0 ((done ++ [(i, d)]).map (·.2))).map eEv)]⟩ := by
      intro evs he
      refine ⟨_, d, rfl, okd, by rw [behindM_len]; exact ok.st.sz, d, rfl, _, rfl, ?_⟩
      rw [he, List.map_append, List.map_cons, List.map_nil, ← behindM_snoc, ← ticksM_snoc]
      exact ⟨_, _, rfl⟩
    have esn : pressM C s 0 0 ((done ++ [(i, d)]).map (·.2)) = pressM C s 0 0 (done.map (·.2)) ++ evOf C (behindM s (done.map (·.2))) (0 + (done.map (·.2)).length) (0 + ticksM (done.map (·.2))) d := by
      rw [List.map_append, List.map_cons, List.map_nil, pressM_snoc]
    have fin := rest_ _ esn.symm
    walk_at "d"
    refine ⟨sh_word d, sh_press, ?_⟩
    cases d with
    | press k =>
      refine (if_pos rfl).mpr ?_
      have hk : k + 1 < (behindM s (done.map (·.2))).length := okd
      simp only [show (Deed.press k).num = k from rfl]
      refine ⟨isL_new, L, C, _, k, _, _, rfl, List.getElem?_eq_getElem (by omega), List.getElem?_eq_getElem hk, okS.nd, okS.ov _ (List.getElem_mem _), ok.cel, ?_⟩
      refine ⟨by decide, wApp_new (by
        have := pressM_len C (done.map (·.2)) s 0 0
        have := sz1000
        have := ok.len
        simp only [List.length_map] at *
        omega) ?_⟩
      have e : (pressM C s 0 0 (done.map (·.2))).map eEv ++ [.tup [.int (i : Int), .int (ticksM (done.map (·.2))), ePrs (pairsM C (behindM s (done.map (·.2)))[k] (behindM s (done.map (·.2)))[k + 1])]] = (pressM C s 0 0 (done.map (·.2)) ++ evOf C (behindM s (done.map (·.2))) (0 + (done.map (·.2)).length) (0 + ticksM (done.map (·.2))) (.press k)).map eEv := by
        rw [List.map_append]
        congr 1
        show _ = [eEv (0 + (done.map (·.2)).length, 0 + ticksM (done.map (·.2)), pairsAt C _ k)]
        rw [pairsAt_eq hk, Nat.zero_add, Int.zero_add, List.length_map, hi]; rfl
      rw [e]
      exact fin
    | _ =>
      refine (if_neg (ne_press _ rfl)).mpr ?_
      rw [show evOf C (behindM s (done.map (·.2))) (0 + (done.map (·.2)).length) (0 + ticksM (done.map (·.2))) _ = [] from rfl, List.append_nil] at fin
      exact fin
  · rintro ρ' ⟨x, y, rfl⟩
    rw [enumN_snd]
    walk_at "d"
    rw [app_get]
    simp only [app_set]
    exact ret_app wf (bel_eEvs _ _) h
theorem sp_partner : ∀ (ds : List D) st' Q, ds.length = 2 → WfS st' → F_partner ds st' Q → b_partner (endsOf st'.length Q) ⟨startD 4 ds, st'⟩ := by
  rintro ds st Q hl wf ⟨ps, x, rfl, h⟩
  show b_partner _ ⟨[some (ePrs ps), some (e3 x), none, none], st⟩
  unfold b_partner
  walk_at "d"
  refine dFor_pre (e := ePr) (l := ps) (fun done ρ' => (∃ rest, ps = done ++ rest ∧ partM ps x = partM rest x) ∧ ∃ a b, ρ' = ⟨[some (ePrs ps), some (e3 x), a, b], st⟩) (fun L hL => ?_) ⟨⟨ps, rfl, rfl⟩, _, _, rfl⟩ ?_ ?_
  · walk_at "d"
    exact hL
  · rintro done ⟨p, q⟩ rest ρ' er ⟨⟨rest', er', hp⟩, a, b, rfl⟩
    have : rest' = (p, q) :: rest := List.append_cancel_left (er'.symm.trans er)
    subst this
    show gTupD 2 _ (.tup [e3 p, e3 q]) _ _
    walk_at "d"
    simp only [ap_inT]
    walk_at "d"
    refine ⟨by decide, (sh_tup 63 _).mpr fun d hd => by
      simp only [List.mem_cons, List.not_mem_nil, or_false] at hd
      rcases hd with rfl | rfl <;> exact sh_e3 _ 62, ?_⟩
    rw [show partM ((p, q) :: rest) x = (if x = p then some q else if x = q then some p else partM rest x) from rfl] at hp
    simp only [List.any_cons, List.any_nil, deq_e3, Bool.or_false, bne_iff_ne, ne_eq, Bool.not_eq_false, Bool.or_eq_true, decide_eq_true_eq]
    refine ite_dec (fun hx => ?_) (fun hx => ?_)
    · refine ite_dec (fun hx1 => ?_) (fun hx1 => ?_)
      · rw [if_pos hx1] at hp
        rw [hp] at h
        exact ret_same wf (bel_e3 _ _) h
      · rw [if_neg hx1, if_pos (by rcases hx with z | z; exact absurd z.symm hx1; exact z.symm)] at hp
        rw [hp] at h
        exact ret_same wf (bel_e3 _ _) h
    · rw [if_neg (fun z => hx (.inl z.symm)), if_neg (fun z => hx (.inr z.symm))] at hp
      exact ⟨⟨rest, by rw [er]; simp, hp⟩, _, _, rfl⟩
  · rintro ρ' ⟨⟨rest', er', hp⟩, a, b, rfl⟩
    have : rest' = [] := by
      have := congrArg List.length er'
      rw [List.length_append] at this
      exact List.eq_nil_of_length_eq_zero (by omega)
    subst this
    rw [hp] at h
    walk_at "d"
    exact ret_same wf (bel_non _) h
end BB
set_option maxRecDepth 100000
set_option maxHeartbeats 1000000
namespace BB
open PySem PySem.Spec PyProof.Rows L2
local macro_rules | `(tactic| walk_at "d") => `(tactic| simp only [ap_var, ap_c, ap_op, ap_b, ap_chain, ap_isN, ap_notN, ap_not, ap_and, ap_or, ap_notV, ap_andV, ap_orV, ap_if, ap_nil, ap_cons, ap_tup, ap_lst, ap_newL, ap_call, ap_bt, ap_bm, ap_sl, ap_no, ap_some, ap_rev, ap_frz, ap_get2, ap_oneT, ap_newT, ap_newS, ap_dictNew, ap_isi, ap_gset, ap_gend, ap_gmore, ap_gtup, ap_gtup3, ap_gsub, ap_next, ap_seq, ap_drop, ap_ret, ap_retN, ap_brk, ap_cont, ap_ifS, ap_asg, ap_par, ap_par3, ap_aug, ap_onx, ap_ort, ap_it, ap_enum, ap_items, ap_rg1, ap_rg2, ap_zip, ap_eq, ap_ne, ap_i2, ap_arI, ap_addI, ap_addT, ap_addL, ap_ixT, ap_ixL, ap_ix3, ap_wlen, ap_wtup, ap_btN, ap_isiA, ap_callK, ap_lstRg, ap_ixMk, ap_min2, ap_max2, ap_ixDr, ap_gtupDr2, ap_gtupE, ex_at0, ex_at1, ex_at2, ex_bl, ex_int, ex_sli, ex_som, ex_ptr, ex_l1i, ex_l1l, al_l1i, ex_one,
  List.getElem?_cons_zero, List.getElem?_cons_succ, List.set_cons_zero, List.set_cons_succ, List.length_cons, List.length_nil, deq_int, deq_str, deq_e3, vw_e3, vw_i, vw_t, vw_l, vw_s, vw_n, vw_b, true_and, and_true, sh_i64, sh_n64, List.nil_append, List.cons_append, isN_n, isN_i, isN_t, isN_l, isN_b, isN_p, isNon_e3, Bool.not_false, Bool.not_true, if_true, if_false, Bool.false_eq_true, decide_eq_true_eq, ite_true, ite_false, Bool.not_eq_true', decide_eq_false_iff_not, vw_sh, vw_st, ap_ixSh, ap_ixD, ap_ixSt, sh_t3, ap_gtupD, vw_eD, wipeD, reduceIte, Bool.true_eq_false])
theorem deq_bl (a b : Bool) : deq (.bl a) (.bl b) = decide (a = b) := by cases a <;> cases b <;> rfl
theorem sh_b64 (b : Bool) : sh 64 (.bl b) := sh_bl _ _
theorem sp_like_atom (Fr : FS) {x : D} (hx : Atom x) {st : List Cell} {Q : D → List Cell → Prop} (wf : WfS st) (h : Q (.bl true) st) : b_law_like Fr (endsOf st.length Q) ⟨[some x, some x, none], st⟩ := by
  have key : ∀ y : D, isiA ["list", "tuple"] y = some false → isiD "bool" y = some false → sh 64 (vw st y) → deq (vw st y) (vw st y) = true → b_law_like Fr (endsOf st.length Q) ⟨[some y, some y, none], st⟩ := by
    intro y h1 h2 h3 h4
    unfold b_law_like
    walk_at "d"
    refine ⟨false, h1, (if_neg (by decide)).mpr ⟨false, h1, (if_neg (by decide)).mpr ⟨false, h2, false, h2, sh_b64 _, sh_b64 _, ?_⟩⟩⟩
    rw [deq_bl]
    refine (if_pos (by decide)).mpr ⟨h3, h3, ?_⟩
    rw [h4]
    exact ret_same wf (bel_bl _ _) h
  rcases hx with rfl | ⟨i, rfl⟩ | ⟨s, rfl, hs⟩
  · exact key _ (by decide +kernel) (by decide +kernel) (sh_non _) rfl
  · exact key _ (show isiA ["list", "tuple"] (.int 0) = some false by decide +kernel) (show isiD "bool" (.int 0) = some false by decide +kernel) (sh_int _ _) (by rw [vw_i, deq_int]; simp)
  · exact key _ (show isiA ["list", "tuple"] (.str "") = some false by decide +kernel) (show isiD "bool" (.str "") = some false by decide +kernel) (sh_str' _ _ hs) (by rw [vw_s, deq_str]; simp)
theorem sp_like : ∀ (n : Nat) (ds : List D) st' Q, ds.length = 2 → WfS st' → F_like (n + 1) ds st' Q → b_law_like (F_like n) (endsOf st'.length Q) ⟨startD 3 ds, st'⟩ := by
  rintro n ds st Q hl wf ⟨x, rfl, hx, h⟩
  show b_law_like _ _ ⟨[some x, some x, none], st⟩
  rcases hx with hx | ⟨es, hxe, hlen, hes⟩
  · exact sp_like_atom _ hx wf h
  · have key : ∀ y : D, (vw st y = .lst es ∨ vw st y = .tup es) → (∀ (i : Nat) (hi : i < es.length) (Z : D → Prop), Z es[i] → wIxA y (.int (i : Int)) st Z) → isiA ["list", "tuple"] y = some true → ∀ b c, isiD "list" y = some b → isiD "tuple" y = some c → b_law_like (F_like n) (endsOf st.length Q) ⟨[some y, some y, none], st⟩ := by
      intro y hv hix h1 b c hb hc
      have hlen2 : ∀ Z : D → Prop, Z (.int (es.length : Int)) → wLen [y] st Z := fun Z hz => by
        rw [ap_wlen]
        rcases hv with hv | hv <;> rw [hv] <;> exact hz
      unfold b_law_like
      simp only [ap_seq, ap_ifS, ap_b, ap_isiA, ap_var, List.getElem?_cons_zero, List.getElem?_cons_succ, ex_som]
      refine ⟨true, h1, _, rfl, (if_pos rfl).mpr ?_⟩
      walk_at "d"
      refine ⟨b, hb, b, hb, sh_b64 _, sh_b64 _, ?_⟩
      rw [deq_bl]
      refine (if_neg (by simp)).mpr ⟨c, hc, c, hc, sh_b64 _, sh_b64 _, ?_⟩
      rw [deq_bl]
      refine (if_neg (by simp)).mpr ?_
      have hv2 := hv
      rcases hv with hv | hv <;> simp only [hv] <;> refine (if_neg (by simp)).mpr ?_
      all_goals
        refine dLc_filter (α := Nat) (l := List.range es.length) (e := fun i => .int (i : Int)) (p := fun _ => false) (f := fun i => .int (i : Int)) (fun W hW => ?_) (fun i hi C N hC hN => ?_) ?_
        · simp only [ap_rg1]
          refine ⟨y, rfl, ?_⟩
          simp only [hv]
          refine ⟨by omega, ?_⟩
          refine ⟨_, rfl, by omega, ?_⟩
          have e : intsD 0 (es.length : Int).toNat = (List.range es.length).map fun (i : Nat) => D.int (i : Int) := by
            rw [Int.toNat_natCast]; unfold intsD; simp
          rw [e]; exact hW
        · have hi := List.mem_range.mp hi
          walk_at "d"
          refine hix i hi _ (hix i hi _ ⟨_, rfl, hes _ (List.getElem_mem hi), _, rfl, ?_⟩)
          exact (if_neg (by decide)).mpr (hN rfl _ rfl)
        · have ef : ((List.range es.length).filter fun _ => false).map (fun (i : Nat) => D.int (i : Int)) = [] := by simp
          rw [ef]
          refine ⟨by decide, (sh_lst 63 []).mpr (fun _ h => nomatch h), (sh_lst 63 []).mpr (fun _ h => nomatch h), ?_⟩
          exact ret_same wf (bel_bl _ _) h
    rcases hxe with rfl | rfl
    · exact key _ (.inl rfl) (fun i hi Z hz => by rw [ap_ixL, atI_nat _ _ hi]; exact ⟨_, rfl, hz⟩) (show isiA ["list", "tuple"] (.lst []) = some true by decide +kernel) true false (show isiD "list" (.lst []) = some true by decide +kernel) (show isiD "tuple" (.lst []) = some false by decide +kernel)
    · exact key _ (.inr rfl) (fun i hi Z hz => by rw [ap_ixT, atI_nat _ _ hi]; exact ⟨_, rfl, hz⟩) (show isiA ["list", "tuple"] (.tup []) = some true by decide +kernel) false true (show isiD "list" (.tup []) = some false by decide +kernel) (show isiD "tuple" (.tup []) = some true by decide +kernel)
theorem sp_like0 : ∀ (ds : List D) st' Q, ds.length = 2 → WfS st' → F_like 0 ds st' Q → b_law_like (fun _ _ _ => False) (endsOf st'.length Q) ⟨startD 3 ds, st'⟩ := by
  rintro ds st Q hl wf ⟨x, rfl, hx, h⟩
  exact sp_like_atom _ hx wf h
end BB
set_option maxRecDepth 100000
set_option maxHeartbeats 1000000
namespace BB
open PySem PySem.Spec PyProof.Rows L2
local macro_rules | `(tactic| walk_at "d") => `(tactic| simp only [ap_var, ap_c, ap_op, ap_b, ap_chain, ap_isN, ap_notN, ap_not, ap_and, ap_or, ap_notV, ap_andV, ap_orV, ap_if, ap_nil, ap_cons, ap_tup, ap_lst, ap_newL, ap_call, ap_bt, ap_bm, ap_sl, ap_no, ap_some, ap_rev, ap_frz, ap_get2, ap_oneT, ap_newT, ap_newS, ap_dictNew, ap_isi, ap_gset, ap_gend, ap_gmore, ap_gtup, ap_gtup3, ap_gsub, ap_next, ap_seq, ap_drop, ap_ret, ap_retN, ap_brk, ap_cont, ap_ifS, ap_asg, ap_par, ap_par3, ap_aug, ap_onx, ap_ort, ap_it, ap_enum, ap_items, ap_rg1, ap_rg2, ap_zip, ap_eq, ap_ne, ap_i2, ap_arI, ap_addI, ap_addT, ap_addL, ap_ixT, ap_ixL, ap_ix3, ap_wlen, ap_wtup, ap_btN, ap_isiA, ap_lstRg, ap_ixMk, ap_min2, ap_max2, ap_ixDr, ap_gtupDr2, ap_gtupE, ex_at0, ex_at1, ex_at2, ex_bl, ex_int, ex_sli, ex_som, ex_ptr, ex_l1i, ex_l1l, al_l1i, ex_one,
  List.getElem?_cons_zero, List.getElem?_cons_succ, List.set_cons_zero, List.set_cons_succ, List.length_cons, List.length_nil, deq_int, deq_str, deq_e3, vw_e3, vw_i, vw_t, vw_l, vw_s, vw_n, vw_b, true_and, and_true, sh_i64, sh_n64, List.nil_append, List.cons_append, isN_n, isN_i, isN_t, isN_l, isN_b, isN_p, isNon_e3, Bool.not_false, Bool.not_true, if_true, if_false, Bool.false_eq_true, decide_eq_true_eq, ite_true, ite_false, Bool.not_eq_true', decide_eq_false_iff_not, vw_sh, vw_st, ap_ixSh, ap_ixD, ap_ixSt, sh_t3, ap_gtupD, vw_eD, wipeD, reduceIte, Bool.true_eq_false])
theorem bel_eMk (n : Nat) (m : Mk2) : bel n (eMk m) := (bel_tup _ _).mpr fun d hd => by
  simp only [List.mem_cons, List.not_mem_nil, or_false] at hd
  rcases hd with rfl | rfl <;> exact bel_int _ _
theorem belC_fo (n : Nat) (m : Found) : belC n (eFo m) := by
  show bels n (kD e3 m) ∧ bels n (vD eMk m)
  rw [bels_iff, bels_iff]
  refine ⟨fun d hd => ?_, fun d hd => ?_⟩
  · obtain ⟨a, ha, rfl⟩ := List.mem_map.mp hd; exact bel_e3 _ _
  · obtain ⟨a, ha, rfl⟩ := List.mem_map.mp hd; exact bel_eMk _ _
/-- a store at a cell's dict -/
theorem set_fo {st : List Cell} {P : List Cell → Prop} {m : Found} {j : Nat} {t : T3} {y : Mk2} (hj : st[j]? = some (eFo m)) (hl : m.length < sizeLine) (h : P (st.set j (eFo (aput m t y)))) : wSetA (.ptr j) (e3 t) (eMk y) st P := by
  have hj' : st[j]? = some (.dct (kD e3 m) (vD eMk m)) := hj
  unfold wSetA
  simp only [hj']
  refine ⟨_, _, _, rfl, hj', isKey_e3 t, by simpa [kD] using hl, ?_⟩
  rw [put_kv kenc3]
  exact h
theorem sp_put_on : ∀ (ds : List D) st' Q, ds.length = 4 → WfS st' → F_put_on ds st' Q → b_put_on (endsOf st'.length Q) ⟨startD 5 ds, st'⟩ := by
  rintro ds st Q hl wf ⟨j, m, x, s, d, rfl, hj, hm, h⟩
  show b_put_on _ ⟨[some (.ptr j), some (e3 x), some (.int s), some (.int d), none], st⟩
  unfold b_put_on
  walk_at "d"
  refine ⟨isDi_cell hj, by decide, get_cell (v := eMk) hj ?_⟩
  have e : ∃ o : Mk2, ((aget m x).map eMk).getD (.tup [.int s, .int d]) = eMk o ∧ putM m x s d = aput m x (min o.1 s, max o.2 d) := by
    unfold putM
    cases aget m x with
    | some o => exact ⟨o, rfl, rfl⟩
    | none => exact ⟨(s, d), rfl, by simp⟩
  obtain ⟨o, e1, e2⟩ := e
  rw [e1]
  walk_at "d"
  refine ⟨by decide, ?_⟩
  refine set_fo (y := (min o.1 s, max o.2 d)) hj hm ?_
  rw [← e2]
  exact ret_set0 wf (belC_fo _ _) (bel_non _) h
theorem ix_fo {st : List Cell} {Z : D → Prop} {m : Found} {j : Nat} {t : T3} {y : Mk2} (hj : st[j]? = some (eFo m)) (h : aget m t = some y) (hz : Z (eMk y)) : wIxA (.ptr j) (e3 t) st Z := by
  have hj' : st[j]? = some (.dct (kD e3 m) (vD eMk m)) := hj
  unfold wIxA
  have e : vw st (.ptr j) = .ptr j := by simp [vw, hj']
  rw [e]
  exact .inl ⟨_, _, eMk y, dv_cell hj', isKey_e3 t, by rw [look_kv kenc3, h]; rfl, hz⟩
theorem Kd.putM {m : Found} (h : Kd m) {x : T3} (hx : x ∈ box 8 2 6) (s d : Int) : Kd (BB.putM m x s d) := by
  unfold BB.putM
  cases aget m x <;> exact h.put hx _
theorem Kd.pressOne {m : Found} (h : Kd m) {p : Pr} (hp : p.1 ∈ box 8 2 6 ∧ p.2 ∈ box 8 2 6) (t : Int) : Kd (BB.pressOne t m p) := by
  unfold BB.pressOne
  split
  · exact h
  · exact (h.putM hp.1 _ _).putM hp.2 _ _
theorem freshOne_len (t : Int) (m : Found) (p : Pr) : (freshOne t m p).length ≤ 2 := by
  unfold freshOne
  split
  · simp
  · exact List.length_filter_le _ _
theorem freshAll_snoc (t : Int) : ∀ (ps : List Pr) (m : Found) (p : Pr), freshAll t m (ps ++ [p]) = freshAll t m ps ++ freshOne t (pressAll t m ps) p
  | [], m, p => by simp [freshAll, pressAll]
  | q :: ps, m, p => by
    rw [List.cons_append, freshAll, freshAll_snoc t ps (pressOne t m q) p, freshAll, List.append_assoc]; rfl
theorem freshAll_len (t : Int) : ∀ (ps : List Pr) (m : Found), (freshAll t m ps).length ≤ 2 * ps.length
  | [], m => by simp [freshAll]
  | q :: ps, m => by
    rw [freshAll, List.length_append, List.length_cons]
    have := freshAll_len t ps (pressOne t m q)
    have := freshOne_len t m q
    omega
theorem pressAll_kd {m : Found} (h : Kd m) (t : Int) : ∀ (ps : List Pr), PrBox ps → Kd (pressAll t m ps) := by
  refine snoc_ind (fun _ => h) fun ps p ih hb => ?_
  unfold pressAll
  rw [List.foldl_append]
  exact (ih fun q hq => hb q (List.mem_append_left _ hq)).pressOne (hb p (by simp)) t
theorem foldl_max_le : ∀ (ns : List Int) (n : Int), n ≤ ns.foldl max n ∧ ∀ x ∈ ns, x ≤ ns.foldl max n
  | [], n => ⟨Int.le_refl _, fun _ h => nomatch h⟩
  | a :: ns, n => by
    obtain ⟨h1, h2⟩ := foldl_max_le ns (max n a)
    refine ⟨?_, fun x hx => ?_⟩
    · exact Int.le_trans (Int.le_max_left n a) h1
    · rcases List.mem_cons.mp hx with rfl | hx
      · exact Int.le_trans (Int.le_max_right n x) h1
      · exact h2 x hx
theorem foldl_max_mem : ∀ (ns : List Int) (n : Int), ns.foldl max n ∈ n :: ns
  | [], n => by simp
  | a :: ns, n => by
    have := foldl_max_mem ns (max n a)
    rw [List.foldl_cons]
    rcases List.mem_cons.mp this with h | h
    · rw [h]
      rcases Int.le_total n a with q | q
      · rw [Int.max_eq_right q]; simp
      · rw [Int.max_eq_left q]; simp
    · exact List.mem_cons_of_mem _ (List.mem_cons_of_mem _ h)
theorem max_uniq {ns : List Int} (hne : ns ≠ []) {m : Int} (h1 : m ∈ ns) (h2 : ∀ y ∈ ns, y ≤ m) : m = maxI ns := by
  cases ns with
  | nil => exact absurd rfl hne
  | cons n ns =>
    show m = ns.foldl max n
    obtain ⟨g1, g2⟩ := foldl_max_le ns n
    have g3 := foldl_max_mem ns n
    have a1 : m ≤ ns.foldl max n := by
      rcases List.mem_cons.mp h1 with rfl | h
      · exact g1
      · exact g2 m h
    have a2 := h2 _ g3
    omega
theorem app_at {st : List Cell} {j : Nat} {c c0 d : Cell} (hj : st[j]? = some c0) : (st.set j c ++ [d])[j]? = some c := by
  have hl := (List.getElem?_eq_some_iff.mp hj).1
  rw [List.getElem?_append_left (by simpa using hl), List.getElem?_set_self hl]
theorem app_last {st : List Cell} {j : Nat} {c d : Cell} : (st.set j c ++ [d])[st.length]? = some d := by
  rw [List.getElem?_append_right (by simp)]; simp
theorem app_setj {st : List Cell} {j : Nat} {c c2 d : Cell} (hj : j < st.length) : (st.set j c ++ [d]).set j c2 = st.set j c2 ++ [d] := by
  rw [List.set_append_left _ _ (by simpa using hj), List.set_set]
theorem app_setl {st : List Cell} {j : Nat} {c d d2 : Cell} : (st.set j c ++ [d]).set st.length d2 = st.set j c ++ [d2] := by
  rw [List.set_append_right _ _ (by simp)]; simp
theorem sp_pressed : ∀ (ds : List D) st' Q, ds.length = 3 → WfS st' → F_pressed ds st' Q → b_pressed (endsOf st'.length Q) ⟨startD 10 ds, st'⟩ := by
  rintro ds st Q hl wf ⟨j, m0, t, ps, rfl, hj, hm0, hb, hps, h⟩
  show b_pressed _ ⟨[some (.ptr j), some (.int t), some (ePrs ps), none, none, none, none, none, none, none], st⟩
  have hjl := (List.getElem?_eq_some_iff.mp hj).1
  have sz : 5000 < sizeLine := by decide
  unfold b_pressed
  walk_at "d"
  refine ⟨by decide, ?_⟩
  refine dFor_pre (e := ePr) (l := ps) (fun done ρ' => ∃ x4 x5 x6 x7 x8 x9, ρ' = ⟨[some (.ptr j), some (.int t), some (ePrs ps), some (.ptr st.length), x4, x5, x6, x7, x8, x9], st.set j (eFo (pressAll t m0 done)) ++ [.lst ((freshAll t m0 done).map e3)]⟩) (fun W hW => ?_) ⟨_, _, _, _, _, _, by rw [show pressAll t m0 [] = m0 from rfl, set_self hj]; rfl⟩ ?_ ?_
  · walk_at "d"
    exact hW
  · rintro done ⟨a, b⟩ rest ρ' er ⟨x4, x5, x6, x7, x8, x9, rfl⟩
    have hab := hb (a, b) (by rw [er]; simp)
    have hm := pressAll_kd hm0 t done fun q hq => hb q (by rw [er]; exact List.mem_append_left _ hq)
    have hdl : done.length < 1000 := by
      have := congrArg List.length er
      simp only [List.length_append, List.length_cons] at this
      omega
    have hfl := freshAll_len t done m0
    have es : pressAll t m0 (done ++ [(a, b)]) = pressOne t (pressAll t m0 done) (a, b) := by unfold pressAll; rw [List.foldl_append]; rfl
    rw [es, freshAll_snoc]
    generalize pressAll t m0 done = m at hm ⊢
    generalize freshAll t m0 done = fr at hfl ⊢
    show gTupD 2 _ (.tup [e3 a, e3 b]) _ _
    walk_at "d"
    -- had
    refine dLc_filter (α := T3) (l := [a, b]) (e := e3) (p := fun x => (aget m x).isSome) (f := fun x => .tup [e3 x, eMk ((aget m x).getD (0, 0))]) (fun W hW => ?_) (fun x hx C N hC hN => ?_) ?_
    · walk_at "d"
      exact ⟨by decide, hW⟩
    · walk_at "d"
      refine in_cell (v := eMk) (app_at hj) ⟨_, rfl, ?_⟩
      cases q : aget m x with
      | none =>
        rw [q] at hN
        exact (if_neg (by decide)).mpr (hN rfl _ rfl)
      | some y =>
        rw [q] at hC
        refine (if_pos rfl).mpr ?_
        refine ix_fo (app_at hj) q ⟨by decide, hC rfl _ rfl⟩
    walk_at "d"
    -- wet
    refine dLc_filter (α := T3) (l := [a, b].filter fun x => (aget m x).isSome) (e := fun x => .tup [e3 x, eMk ((aget m x).getD (0, 0))]) (p := fun x => decide (t < ((aget m x).getD (0, 0)).2)) (f := fun x => .int ((aget m x).getD (0, 0)).2) (fun W hW => ?_) (fun x hx C N hC hN => ?_) ?_
    · walk_at "d"
      exact hW
    · walk_at "d"
      refine ite_dec (fun h1 => ?_) (fun h1 => ?_)
      · exact hC (decide_eq_true h1) _ rfl
      · exact hN (decide_eq_false h1) _ rfl
    have ew : ((([a, b].filter fun x => (aget m x).isSome).filter fun x => decide (t < ((aget m x).getD (0, 0)).2)).map fun x => D.int ((aget m x).getD (0, 0)).2) = (wets t m (a, b)).map .int := by unfold wets; rw [List.map_map]; rfl
    rw [ew]
    unfold pressOne freshOne
    walk_at "d"
    refine ⟨by decide, sh_mapL fun _ _ => sh_int _ _, (show sh 64 (.lst ([].map D.int)) from sh_mapL fun _ h => nomatch h), ?_⟩
    have ed : deq (.lst ((wets t m (a, b)).map D.int)) (.lst []) = decide (wets t m (a, b) = []) := deq_mapL deq_int _ []
    by_cases hwe : wets t m (a, b) = []
    · refine (if_neg (by rw [ed]; simp [hwe])).mpr ?_
      rw [if_pos hwe, if_pos hwe, List.append_nil]
      exact ⟨_, _, _, _, _, _, rfl⟩
    · refine (if_pos (by rw [ed]; simp [hwe])).mpr ?_
      rw [if_neg hwe, if_neg hwe]
      generalize hw : wets t m (a, b) = ws at hwe
      refine ⟨⟨_, vw_cell app_last⟩, ?_⟩
      refine dLc_filter (α := T3) (l := [a, b]) (e := e3) (p := fun x => (aget m x).isNone) (f := e3) (fun W hW => ?_) (fun x hx C N hC hN => ?_) ?_
      · walk_at "d"
        exact ⟨by decide, hW⟩
      · walk_at "d"
        refine in_cell (v := eMk) (app_at hj) ⟨_, rfl, ?_⟩
        cases q : aget m x with
        | none =>
          rw [q] at hC
          exact (if_pos rfl).mpr (hC rfl _ rfl)
        | some y =>
          rw [q] at hN
          exact (if_neg (show ¬ ((true != true) = true) by decide)).mpr (hN rfl _ rfl)
      have hfl2 : ([a, b].filter fun x => (aget m x).isNone).length ≤ 2 := List.length_filter_le _ _
      refine ⟨_, _, _, _, rfl, rfl, app_last, rfl, by simp only [List.length_map]; omega, ?_⟩
      rw [app_setl, ← List.map_append]
      generalize fr ++ [a, b].filter (fun x => (aget m x).isNone) = fr2
      refine dFor_pre (e := e3) (l := [a, b]) (fun d2 ρ' => ∃ y8, ρ' = ⟨[some (.ptr j), some (.int t), some (ePrs ps), some (.ptr st.length), some (e3 a), some (e3 b), some (.lst (([a, b].filter fun x => (aget m x).isSome).map fun x => .tup [e3 x, eMk ((aget m x).getD (0, 0))])), some (.lst (ws.map .int)), y8, x9], st.set j (eFo (d2.foldl (fun m x => putM m x t (maxI ws)) m)) ++ [.lst (fr2.map e3)]⟩) (fun W hW => ?_) ⟨_, rfl⟩ ?_ ?_
      · walk_at "d"
        exact ⟨by decide, hW⟩
      · rintro d2 x rest2 ρ' er2 ⟨y8, rfl⟩
        have hkd : ∀ (l : List T3) (m' : Found), (∀ x ∈ l, x ∈ box 8 2 6) → Kd m' → Kd (l.foldl (fun m x => putM m x t (maxI ws)) m') := by
          intro l
          induction l with
          | nil => exact fun _ _ h => h
          | cons z l ih => exact fun m' hz h => ih _ (fun q hq => hz q (List.mem_cons_of_mem _ hq)) (h.putM (hz z List.mem_cons_self) _ _)
        have hall : ∀ z ∈ [a, b], z ∈ box 8 2 6 := fun z hz => by
          simp only [List.mem_cons, List.not_mem_nil, or_false] at hz
          rcases hz with rfl | rfl
          · exact hab.1
          · exact hab.2
        have hk2 := hkd d2 m (fun z hz => hall z (by rw [er2]; exact List.mem_append_left _ hz)) hm
        rw [List.foldl_append]
        simp only [List.foldl_cons, List.foldl_nil]
        generalize d2.foldl (fun m x => putM m x t (maxI ws)) m = m2 at hk2 ⊢
        walk_at "d"
        refine ⟨_, ws, rfl, rfl, by
          rcases ws with _ | ⟨w0, ws⟩
          · exact absurd rfl hwe
          · simp, fun mm h1 h2 => ?_⟩
        have em := max_uniq hwe h1 h2
        subst em
        refine ⟨j, m2, x, t, maxI ws, rfl, app_at hj, hk2.len, ?_⟩
        rw [app_setj hjl]
        exact ⟨_, rfl⟩
      · rintro ρ' ⟨y8, rfl⟩
        exact ⟨_, _, _, _, _, _, rfl⟩
  · rintro ρ' ⟨x4, x5, x6, x7, x8, x9, rfl⟩
    walk_at "d"
    rw [app_last]
    simp only [app_setl]
    exact ret_set wf (belC_fo _ _) (bel_mapL fun _ _ => bel_e3 _ _) h
theorem drain_fst (t : Int) : ∀ (l : List Drop) (m : Found), ∃ k, (drain t l m).1 = l.drop k
  | [], m => ⟨0, rfl⟩
  | d :: l, m => by
    unfold drain
    split
    · obtain ⟨k, e⟩ := drain_fst t l (putM m d.x d.f (d.f + d.w))
      exact ⟨k + 1, by rw [e]; rfl⟩
    · exact ⟨0, rfl⟩
theorem drain_kd (t : Int) : ∀ (l : List Drop) (m : Found), (∀ d ∈ l, d.x ∈ box 8 2 6) → Kd m → Kd (drain t l m).2
  | [], m, _, h => h
  | d :: l, m, hl, h => by
    unfold drain
    split
    · exact drain_kd t l _ (fun q hq => hl q (List.mem_cons_of_mem _ hq)) (h.putM (hl d List.mem_cons_self) _ _)
    · exact h
structure SpOk (l0 : List Drop) (q : List Drop × Found) : Prop where
  sub : ∃ k, q.1 = l0.drop k
  kd : Kd q.2
theorem SpOk.bx {l0 : List Drop} {q : List Drop × Found} (h : SpOk l0 q) (hb : ∀ d ∈ l0, d.x ∈ box 8 2 6) : ∀ d ∈ q.1, d.x ∈ box 8 2 6 := fun d hd => by
  obtain ⟨k, e⟩ := h.sub
  rw [e] at hd
  exact hb d (List.mem_of_mem_drop hd)
theorem SpOk.len {l0 : List Drop} {q : List Drop × Found} (h : SpOk l0 q) : q.1.length ≤ l0.length := by
  obtain ⟨k, e⟩ := h.sub
  rw [e, List.length_drop]; omega
theorem SpOk.step {l0 : List Drop} {q : List Drop × Found} (h : SpOk l0 q) (hb : ∀ d ∈ l0, d.x ∈ box 8 2 6) {ev : Ev} (he : PrBox ev.2.2) : SpOk l0 (spStep q ev) := by
  refine ⟨?_, pressAll_kd (drain_kd _ _ _ (h.bx hb) h.kd) _ _ he⟩
  obtain ⟨k, e⟩ := h.sub
  obtain ⟨k', e'⟩ := drain_fst ev.2.1 q.1 q.2
  exact ⟨k + k', by show (drain ev.2.1 q.1 q.2).1 = _; rw [e', e, List.drop_drop]⟩
theorem kd_nil : Kd ([] : Found) := ⟨by simp, fun _ h => by simp at h⟩
theorem spread_ok {evs : List Ev} (hb : InBox evs) {l0 : List Drop} (hl : ∀ d ∈ l0, d.x ∈ box 8 2 6) : ∀ done rest, evs = done ++ rest → SpOk l0 (done.foldl spStep (l0, [])) := by
  refine snoc_ind (fun rest _ => ⟨⟨0, rfl⟩, kd_nil⟩) fun done ev ih rest e => ?_
  rw [List.foldl_append]
  exact (ih ([ev] ++ rest) (by rw [e]; simp)).step hl fun p hp => hb ev (by rw [e]; simp) p hp
theorem putAll_kd : ∀ (l : List Drop) (m : Found), (∀ d ∈ l, d.x ∈ box 8 2 6) → Kd m → Kd (putAll l m)
  | [], m, _, h => h
  | d :: l, m, hl, h => putAll_kd l _ (fun q hq => hl q (List.mem_cons_of_mem _ hq)) (h.putM (hl d List.mem_cons_self) _ _)
end BB
set_option maxRecDepth 100000
set_option maxHeartbeats 1000000
namespace BB
open PySem PySem.Spec PyProof.Rows L2
local macro_rules | `(tactic| walk_at "d") => `(tactic| simp only [ap_var, ap_c, ap_op, ap_b, ap_chain, ap_isN, ap_notN, ap_not, ap_and, ap_or, ap_notV, ap_andV, ap_orV, ap_if, ap_nil, ap_cons, ap_tup, ap_lst, ap_newL, ap_call, ap_bt, ap_bm, ap_sl, ap_no, ap_some, ap_rev, ap_frz, ap_get2, ap_oneT, ap_newT, ap_newS, ap_dictNew, ap_isi, ap_gset, ap_gend, ap_gmore, ap_gtup, ap_gtup3, ap_gsub, ap_next, ap_seq, ap_drop, ap_ret, ap_retN, ap_brk, ap_cont, ap_ifS, ap_asg, ap_par, ap_par3, ap_aug, ap_onx, ap_ort, ap_it, ap_enum, ap_items, ap_rg1, ap_rg2, ap_zip, ap_eq, ap_ne, ap_i2, ap_arI, ap_addI, ap_addT, ap_addL, ap_ixT, ap_ixL, ap_ix3, ap_wlen, ap_wtup, ap_btN, ap_isiA, ap_lstRg, ap_ixMk, ap_min2, ap_max2, ap_ixDr, ap_gtupDr2, ap_gtupE, ex_at0, ex_at1, ex_at2, ex_bl, ex_int, ex_sli, ex_som, ex_ptr, ex_l1i, ex_l1l, al_l1i, ex_one,
  List.getElem?_cons_zero, List.getElem?_cons_succ, List.set_cons_zero, List.set_cons_succ, List.length_cons, List.length_nil, deq_int, deq_str, deq_e3, vw_e3, vw_i, vw_t, vw_l, vw_s, vw_n, vw_b, true_and, and_true, sh_i64, sh_n64, List.nil_append, List.cons_append, isN_n, isN_i, isN_t, isN_l, isN_b, isN_p, isNon_e3, Bool.not_false, Bool.not_true, if_true, if_false, Bool.false_eq_true, decide_eq_true_eq, ite_true, ite_false, Bool.not_eq_true', decide_eq_false_iff_not, vw_sh, vw_st, ap_ixSh, ap_ixD, ap_ixSt, sh_t3, ap_gtupD, vw_eD, wipeD, reduceIte, Bool.true_eq_false])
theorem sortD_map {α : Type} (f : α → D) (l : List α) : sortD (l.map f) = (l.mergeSort fun a b => PySem.W.dataLe false py (f a) (f b)).map f := by
  unfold sortD
  exact (List.map_mergeSort (r := fun a b => PySem.W.dataLe false py (f a) (f b)) (s := PySem.W.dataLe false py) (f := f) (fun a _ b _ => rfl)).symm
theorem alike_dr (a b : Drop) : PySem.W.alike (py (eDr a)) (py (eDr b)) = true := by
  unfold eDr e3
  simp [py, pys, PySem.W.alike, PySem.W.alikeAll]
theorem alike_e3 (a b : T3) : PySem.W.alike (py (e3 a)) (py (e3 b)) = true := by
  unfold e3
  simp [py, pys, PySem.W.alike, PySem.W.alikeAll]
theorem sh_dr (d : Drop) (n : Nat) : sh (n + 2) (eDr d) := (sh_tup (n + 1) _).mpr fun x hx => by
  simp only [List.mem_cons, List.not_mem_nil, or_false] at hx
  rcases hx with rfl | rfl | rfl
  · exact sh_int _ _
  · exact sh_e3 _ n
  · exact sh_int _ _
theorem sortOk_dr (l : List Drop) : SortOk (l.map eDr) := ⟨sh_mapL fun d _ => sh_dr d 57, fun a ha b hb => by
  obtain ⟨x, hx, rfl⟩ := List.mem_map.mp ha
  obtain ⟨y, hy, rfl⟩ := List.mem_map.mp hb
  obtain ⟨d, _, rfl⟩ := List.mem_map.mp hx
  obtain ⟨e, _, rfl⟩ := List.mem_map.mp hy
  exact alike_dr d e, .inl fun d hd => by
  obtain ⟨x, hx, rfl⟩ := List.mem_map.mp hd
  obtain ⟨e, _, rfl⟩ := List.mem_map.mp hx
  exact ⟨_, _, rfl⟩⟩
theorem sortOk_e3 (l : List T3) : SortOk (l.map e3) := ⟨sh_mapL fun d _ => sh_e3 d 58, fun a ha b hb => by
  obtain ⟨x, hx, rfl⟩ := List.mem_map.mp ha
  obtain ⟨y, hy, rfl⟩ := List.mem_map.mp hb
  obtain ⟨d, _, rfl⟩ := List.mem_map.mp hx
  obtain ⟨e, _, rfl⟩ := List.mem_map.mp hy
  exact alike_e3 d e, .inl fun d hd => by
  obtain ⟨x, hx, rfl⟩ := List.mem_map.mp hd
  obtain ⟨e, _, rfl⟩ := List.mem_map.mp hx
  exact ⟨_, _, rfl⟩⟩
theorem sortDr_eq (l : List Drop) : sortD (l.map eDr) = (sortDr l).map eDr := sortD_map eDr l
theorem sort3_eq (l : List T3) : sortD (l.map e3) = (sort3 l).map e3 := sortD_map e3 l
theorem sortDr_perm (l : List Drop) : (sortDr l).Perm l := List.mergeSort_perm _ _
theorem sort3_perm (l : List T3) : (sort3 l).Perm l := List.mergeSort_perm _ _
section
variable {st : List Cell} {a b c d : Cell}
theorem two_0 : (st ++ [a, b])[st.length]? = some a := by rw [List.getElem?_append_right (Nat.le_refl _)]; simp
theorem two_1 : (st ++ [a, b])[st.length + 1]? = some b := by rw [List.getElem?_append_right (by omega)]; simp
theorem two_s0 : (st ++ [a, b]).set st.length c = st ++ [c, b] := by rw [List.set_append_right _ _ (Nat.le_refl _)]; simp
theorem two_s1 : (st ++ [a, b]).set (st.length + 1) c = st ++ [a, c] := by rw [List.set_append_right _ _ (by omega)]; simp
end
theorem deq_lnil (x : D) (l : List D) : deq (.lst (x :: l)) (.lst []) = false := rfl
theorem press_plen (C : Nat) : ∀ (r : List Deed) (s : Stand) (a : Nat) (t : Int), ∀ e ∈ pressM C s a t r, e.2.2.length ≤ C
  | [], s, a, t, e, he => nomatch he
  | d :: r, s, a, t, e, he => by
    rw [pressM] at he
    rcases List.mem_append.mp he with he | he
    · cases q : isPress d with
      | none => rw [q] at he; cases he
      | some k =>
        rw [q] at he
        have : e = (a, t, pairsAt C s k) := by simpa using he
        rw [this]
        show (pairsAt C s k).length ≤ C
        unfold pairsAt
        split
        · simp [pairsM]
        · simp
    · exact press_plen C r _ _ _ e he
theorem sp_spread : ∀ (ds : List D) st' Q, ds.length = 4 → WfS st' → F_spread ds st' Q → b_spread (endsOf st'.length Q) ⟨startD 12 ds, st'⟩ := by
  rintro ds st Q hl wf ⟨L, C, s, r, l, rfl, ok, hb, hx, hll, h⟩
  show b_spread _ ⟨[some (eSh L C), some (eSt s), some (eR r), some (.lst (l.map eDr)), none, none, none, none, none, none, none, none], st⟩
  unfold b_spread
  walk_at "d"
  refine ⟨_, _, rfl, rfl, sortOk_dr l, ?_⟩
  rw [sortDr_eq]
  have hsx : ∀ d ∈ sortDr l, d.x ∈ box 8 2 6 := fun d hd => hx d ((sortDr_perm l).mem_iff.mp hd)
  have hsl : (sortDr l).length ≤ 1000 := by rw [(sortDr_perm l).length_eq]; exact hll
  have h : Q (.dct (kD e3 (spreadM (evsOf C s r) (sortDr l))) (vD eMk (spreadM (evsOf C s r) (sortDr l)))) st := h
  generalize sortDr l = l0 at hsx hsl h ⊢
  have e1 : (st ++ [Cell.dct [] []]).length = st.length + 1 := by simp
  have e2 : st ++ [Cell.dct [] []] ++ [.lst (l0.map eDr)] = st ++ [eFo [], .lst (l0.map eDr)] := by rw [List.append_assoc]; rfl
  simp only [e1, e2]
  refine dFor_pre (e := eEv) (l := evsOf C s r) (fun done ρ' => ∃ x6 x7 x8 x9 x10 x11, ρ' = ⟨[some (eSh L C), some (eSt s), some (eR r), some (.lst (l.map eDr)), some (.ptr st.length), some (.ptr (st.length + 1)), x6, x7, x8, x9, x10, x11],
    st ++ [eFo (done.foldl spStep (l0, [])).2, .lst ((done.foldl spStep (l0, [])).1.map eDr)]⟩) (fun W hW => ?_) ⟨_, _, _, _, _, _, rfl⟩ ?_ ?_
  · walk_at "d"
    exact ⟨L, C, s, r, rfl, ok, hW⟩
  · rintro done ev rest ρ' er ⟨x6, x7, x8, x9, x10, x11, rfl⟩
    have hq := spread_ok hb hsx done (ev :: rest) er
    have hpb : PrBox ev.2.2 := fun p hp => hb ev (by rw [er]; simp) p hp
    have hpl : ev.2.2.length ≤ 1000 := Nat.le_trans (press_plen C r s 0 0 ev (by rw [show pressM C s 0 0 r = evsOf C s r from rfl, er]; simp)) ok.cel
    rw [List.foldl_append]
    simp only [List.foldl_cons, List.foldl_nil]
    generalize done.foldl spStep (l0, []) = q at hq ⊢
    unfold spStep
    have hqb := hq.bx hsx
    have hql := hq.len
    have hqk := hq.kd
    obtain ⟨lf, m⟩ := q
    simp only at hqb hql hqk ⊢
    simp only [ap_gtupE, ap_gmore, ap_gend, ap_gset, List.set_cons_succ, List.set_cons_zero, true_and, ap_seq]
    refine ⟨fun n ρ' => ∃ lf' m' y9 y10 y11, n = lf'.length ∧ (∀ d ∈ lf', d.x ∈ box 8 2 6) ∧ Kd m' ∧ drain ev.2.1 lf' m' = drain ev.2.1 lf m ∧ ρ' = ⟨[some (eSh L C), some (eSt s), some (eR r), some (.lst (l.map eDr)), some (.ptr st.length), some (.ptr (st.length + 1)), some (.int (ev.1 : Int)), some (.int ev.2.1), some (ePrs ev.2.2), y9, y10, y11],
      st ++ [eFo m', .lst (lf'.map eDr)]⟩, ⟨_, lf, m, _, _, _, rfl, hqb, hqk, rfl, rfl⟩, ?_⟩
    rintro n ρ' ⟨lf', m', y9, y10, y11, rfl, hlb, hmk, hdr, rfl⟩
    walk_at "d"
    rw [vw_cell two_1]
    have fin : ∀ (q : List Drop × Found), q = drain ev.2.1 lf m → Kd q.2 → F_pressed [.ptr st.length, .int ev.2.1, ePrs ev.2.2] (st ++ [eFo q.2, .lst (q.1.map eDr)]) fun z st_1 => ∃ x6 x7 x8 x9 x10 x11, (⟨[some (eSh L C), some (eSt s), some (eR r), some (.lst (l.map eDr)), some (.ptr st.length), some (.ptr (st.length + 1)), some (.int (ev.1 : Int)), some (.int ev.2.1), some (ePrs ev.2.2), y9, y10, y11], st_1⟩ : DS) =
        ⟨[some (eSh L C), some (eSt s), some (eR r), some (.lst (l.map eDr)), some (.ptr st.length), some (.ptr (st.length + 1)), x6, x7, x8, x9, x10, x11], st ++ [eFo (pressAll ev.2.1 (drain ev.2.1 lf m).2 ev.2.2), .lst ((drain ev.2.1 lf m).1.map eDr)]⟩ := by
      rintro q rfl hk
      refine ⟨st.length, _, ev.2.1, ev.2.2, rfl, two_0, hk, hpb, hpl, ?_⟩
      rw [two_s0]
      exact ⟨_, _, _, _, _, _, rfl⟩
    cases lf' with
    | nil =>
      refine ⟨by decide, (show sh 64 (.lst ([].map eDr)) from sh_mapL fun _ h => nomatch h), (show sh 64 (.lst ([].map eDr)) from sh_mapL fun _ h => nomatch h), ?_⟩
      refine (if_neg (show ¬ (deq (.lst []) (.lst []) = false) by decide)).mpr ?_
      exact fin ([], m') hdr hmk
    | cons d lf' =>
      refine ⟨by decide, sh_mapL (fun d _ => sh_dr d 61), (show sh 64 (.lst ([].map eDr)) from sh_mapL fun _ h => nomatch h), ?_⟩
      refine (if_pos rfl).mpr ?_
      rw [ix_cell two_1]
      simp only [List.map_cons]
      walk_at "d"
      refine ite_dec (fun h1 => ?_) (fun h1 => ?_)
      · refine ⟨⟨_, vw_cell two_1⟩, st.length + 1, eDr d, lf'.map eDr, rfl, rfl, two_1, ?_⟩
        rw [two_s1]
        walk_at "d"
        refine ⟨st.length, m', d.x, d.f, d.f + d.w, rfl, two_0, hmk.len, ?_⟩
        rw [two_s0]
        refine ⟨lf'.length, by simp, lf', putM m' d.x d.f (d.f + d.w), _, _, _, rfl, fun q hq => hlb q (List.mem_cons_of_mem _ hq), hmk.putM (hlb d List.mem_cons_self) _ _, ?_, rfl⟩
        rw [← hdr]
        exact (if_pos h1).symm
      · refine fin (d :: lf', m') ?_ hmk
        rw [← hdr]
        exact (if_neg h1).symm
  · rintro ρ' ⟨x6, x7, x8, x9, x10, x11, rfl⟩
    have hq := spread_ok hb hsx (evsOf C s r) [] (by simp)
    have hfin : putAll ((evsOf C s r).foldl spStep (l0, [])).1 ((evsOf C s r).foldl spStep (l0, [])).2 = spreadM (evsOf C s r) l0 := rfl
    generalize (evsOf C s r).foldl spStep (l0, []) = q at hq hfin ⊢
    have hqb := hq.bx hsx
    have hqk := hq.kd
    obtain ⟨lf, m⟩ := q
    simp only at hqb hqk hfin ⊢
    simp only [ap_seq]
    refine dFor_pre2 (e := eDr) (l := lf) (ρ1 := ⟨[some (eSh L C), some (eSt s), some (eR r), some (.lst (l.map eDr)), some (.ptr st.length), some (.ptr (st.length + 1)), x6, x7, x8, x9, x10, x11], st ++ [eFo m, .dead]⟩) (fun d2 ρ' => ∃ y9 y10 y11, ρ' = ⟨[some (eSh L C), some (eSt s), some (eR r), some (.lst (l.map eDr)), some (.ptr st.length), some (.ptr (st.length + 1)), x6, x7, x8, y9, y10, y11], st ++ [eFo (putAll d2 m), .dead]⟩) (fun W hW => ?_) ⟨_, _, _, rfl⟩ ?_ ?_
    · walk_at "d"
      rw [two_1]
      simp only [two_s1]
      exact hW
    · rintro d2 d rest2 ρ' er2 ⟨y9, y10, y11, rfl⟩
      have hk2 := putAll_kd d2 m (fun q hq => hqb q (by rw [er2]; exact List.mem_append_left _ hq)) hqk
      have es : putAll (d2 ++ [d]) m = putM (putAll d2 m) d.x d.f (d.f + d.w) := by unfold putAll; rw [List.foldl_append]; rfl
      rw [es]
      walk_at "d"
      refine ⟨st.length, _, d.x, d.f, d.f + d.w, rfl, two_0, hk2.len, ?_⟩
      rw [two_s0]
      exact ⟨_, _, _, rfl⟩
    · rintro ρ' ⟨y9, y10, y11, rfl⟩
      rw [hfin]
      walk_at "d"
      rw [two_0]
      have e3' : eFo (spreadM (evsOf C s r) l0) = .dct (kD e3 (spreadM (evsOf C s r) l0)) (vD eMk (spreadM (evsOf C s r) l0)) := rfl
      rw [e3']
      simp only [two_s0]
      exact ret_app wf (bel_dct fun p _ => ⟨bel_e3 _ _, bel_eMk _ _⟩) h
theorem bel_eMark (n : Nat) (p : T3 × Mk2) : bel n (eMark p) := (bel_tup _ _).mpr fun d hd => by
  simp only [List.mem_cons, List.not_mem_nil, or_false] at hd
  rcases hd with rfl | rfl | rfl
  · exact bel_e3 _ _
  · exact bel_int _ _
  · exact bel_int _ _
theorem kD_map (m : Found) : kD e3 m = (m.map (·.1)).map e3 := by rw [List.map_map]; rfl
theorem sp_marks : ∀ (ds : List D) st' Q, ds.length = 4 → WfS st' → F_marks ds st' Q → b_marks (endsOf st'.length Q) ⟨startD 6 ds, st'⟩ := by
  rintro ds st Q hl wf ⟨L, C, s, r, l, rfl, ok, hb, hx, hll, h⟩
  show b_marks _ ⟨[some (eSh L C), some (eSt s), some (eR r), some (.lst (l.map eDr)), none, none], st⟩
  unfold b_marks
  walk_at "d"
  refine ⟨L, C, s, r, l, rfl, ok, hb, hx, hll, ?_⟩
  generalize spreadM (evsOf C s r) (sortDr l) = m at h ⊢
  refine dLc_map (α := T3) (l := sort3 (m.map (·.1))) (e := e3) (f := fun x => eMark (x, (aget m x).getD (0, 0))) (fun W hW => ?_) (fun x hx P hP => ?_) ?_
  · walk_at "d"
    refine ⟨_, rfl, .inr ⟨_, _, rfl, by rw [kD_map]; exact sortOk_e3 _, ?_⟩⟩
    rw [show sortD (kD e3 m) = (sort3 (m.map (·.1))).map e3 by rw [kD_map, sort3_eq]]
    exact hW
  · walk_at "d"
    have hxm : x ∈ m.map (·.1) := (sort3_perm _).mem_iff.mp hx
    cases q : aget m x with
    | none => exact absurd hxm (aget_none.mp q)
    | some y =>
      rw [q] at hP
      refine ⟨by decide, ix_dct (v := eMk) q ⟨(show 1 + 2 ≤ sizeLine by decide), hP _ rfl⟩⟩
  · have e : ((sort3 (m.map (·.1))).map fun x => eMark (x, (aget m x).getD (0, 0))) = (marksM m).map eMark := by unfold marksM; rw [List.map_map]; rfl
    rw [e]
    exact ret_same wf (bel_mapL fun _ _ => bel_eMark _ _) h
end BB
set_option maxRecDepth 100000
set_option maxHeartbeats 1000000
namespace BB
open PySem PySem.Spec PyProof.Rows L2
local macro_rules | `(tactic| walk_at "d") => `(tactic| simp only [ap_var, ap_c, ap_op, ap_b, ap_chain, ap_isN, ap_notN, ap_not, ap_and, ap_or, ap_notV, ap_andV, ap_orV, ap_if, ap_nil, ap_cons, ap_tup, ap_lst, ap_newL, ap_call, ap_bt, ap_bm, ap_sl, ap_no, ap_some, ap_rev, ap_frz, ap_get2, ap_oneT, ap_newT, ap_newS, ap_dictNew, ap_isi, ap_gset, ap_gend, ap_gmore, ap_gtup, ap_gtup3, ap_gsub, ap_next, ap_seq, ap_drop, ap_ret, ap_retN, ap_brk, ap_cont, ap_ifS, ap_asg, ap_par, ap_par3, ap_aug, ap_onx, ap_ort, ap_it, ap_enum, ap_items, ap_rg1, ap_rg2, ap_zip, ap_eq, ap_ne, ap_i2, ap_arI, ap_addI, ap_addT, ap_addL, ap_ixT, ap_ixL, ap_ix3, ap_wlen, ap_wtup, ap_btN, ap_isiA, ap_lstRg, ap_ixMk, ap_min2, ap_max2, ap_ixDr, ap_gtupDr2, ap_gtupE, ex_at0, ex_at1, ex_at2, ex_bl, ex_int, ex_sli, ex_som, ex_ptr, ex_l1i, ex_l1l, al_l1i, ex_one,
  List.getElem?_cons_zero, List.getElem?_cons_succ, List.set_cons_zero, List.set_cons_succ, List.length_cons, List.length_nil, deq_int, deq_str, deq_e3, vw_e3, vw_i, vw_t, vw_l, vw_s, vw_n, vw_b, true_and, and_true, sh_i64, sh_n64, List.nil_append, List.cons_append, isN_n, isN_i, isN_t, isN_l, isN_b, isN_p, isNon_e3, Bool.not_false, Bool.not_true, if_true, if_false, Bool.false_eq_true, decide_eq_true_eq, ite_true, ite_false, Bool.not_eq_true', decide_eq_false_iff_not, vw_sh, vw_st, ap_ixSh, ap_ixD, ap_ixSt, sh_t3, ap_gtupD, vw_eD, wipeD, reduceIte, Bool.true_eq_false])
theorem ints_nat (L : Nat) : intsD 0 (L : Int).toNat = (List.range L).map fun (i : Nat) => D.int (i : Int) := by
  rw [Int.toNat_natCast]; unfold intsD; simp
theorem ints_nat' (L : Nat) : intsD 0 L = (List.range L).map fun (i : Nat) => D.int (i : Int) := by
  unfold intsD; simp
theorem sp_first_stand : ∀ (ds : List D) st' Q, ds.length = 1 → WfS st' → F_first_stand ds st' Q → b_first_stand (endsOf st'.length Q) ⟨startD 2 ds, st'⟩ := by
  rintro ds st Q hl wf ⟨L, C, rfl, hL, h⟩
  show b_first_stand _ ⟨[some (eSh L C), none], st⟩
  unfold b_first_stand
  walk_at "d"
  refine dLc_map (α := Nat) (l := List.range L) (e := fun i => .int (i : Int)) (f := fun i => e3 ((i : Int), 0, 0)) (fun W hW => ?_) (fun a ha P hP => ?_) ?_
  · walk_at "d"
    refine ⟨by omega, by omega, ?_⟩
    rw [ints_nat]; exact hW
  · walk_at "d"
    exact ⟨by decide, hP _ rfl⟩
  · walk_at "d"
    have e : ((List.range L).map fun (i : Nat) => e3 ((i : Int), 0, 0)) = (firstM L).map e3 := by unfold firstM; rw [List.map_map]; rfl
    rw [e]
    exact ret_same wf (bel_st _ _) h
/-- [(word, place) for place in range(n)] -/
theorem lc_deeds {di : DI} {g : DG} {ee : DE} {vs : List Nat} {ρ : DS} {Q : D → DS → Prop} (n : Nat) (f : Nat → Deed) (hdi : ∀ W : List D → DS → Prop, W ((List.range n).map fun (i : Nat) => D.int (i : Int)) ρ → di ρ W)
    (he : ∀ a < n, ∀ P : D → DS → Prop, (∀ ρ' : DS, ρ'.st = ρ.st → P (eD (f a)) ρ') → g (.int (a : Int)) ⟨wipeD ρ.sl vs, ρ.st⟩ fun ρ2 => ee ρ2 P) (hQ : Q (.lst (((List.range n).map f).map eD)) ρ) : dLc di g dYes ee vs ρ Q := by
  refine dLc_map (α := Nat) (l := List.range n) (e := fun i => .int (i : Int)) (f := fun i => eD (f i)) hdi (fun a ha P hP => he a (List.mem_range.mp ha) P hP) ?_
  rw [List.map_map] at hQ
  exact hQ
theorem sub1 (L : Nat) (h : 0 < L) : ((L : Int) - 1) = ((L - 1 : Nat) : Int) := by omega
theorem sp_all_deeds : ∀ (ds : List D) st' Q, ds.length = 1 → WfS st' → F_all_deeds ds st' Q → b_all_deeds (endsOf st'.length Q) ⟨startD 4 ds, st'⟩ := by
  rintro ds st Q hl wf ⟨L, C, rfl, hL0, hL, h⟩
  show b_all_deeds _ ⟨[some (eSh L C), none, none, none], st⟩
  have sz : 5000 < sizeLine := by decide
  unfold b_all_deeds
  walk_at "d"
  refine lc_deeds L .about (fun W hW => ?_) (fun a ha P hP => ?_) ?_
  · walk_at "d"
    refine ⟨by omega, by omega, ?_⟩
    rw [ints_nat]; exact hW
  · walk_at "d"
    exact ⟨by decide, hP _ rfl⟩
  refine lc_deeds L .over (fun W hW => ?_) (fun a ha P hP => ?_) ?_
  · walk_at "d"
    refine ⟨by omega, by omega, ?_⟩
    rw [ints_nat]; exact hW
  · walk_at "d"
    exact ⟨by decide, hP _ rfl⟩
  walk_at "d"
  refine ⟨by simp; omega, ?_⟩
  rw [← List.map_append]
  have key : ∀ (w : Str) (f : Nat → Deed) (acc : List Deed) (x3 : Option D) (R : D → DS → Prop), acc.length ≤ 3000 → (∀ n, (f n).word = w ∧ (f n).num = n) →
      R (.lst ((acc ++ (List.range (L - 1)).map f).map eD)) ⟨[some (eSh L C), some (.lst (acc.map eD)), some (.str w), x3], st⟩ →
      dOp wAdd (dVar 1) (dLc (dRg1 fun ρ Q => (dCons (dOp wSub (dOp wIxA (dVar 0) (dC (.int 0))) (dC (.int 1))) dNil) ρ fun xs ρ' => (∀ j, xs = [.int j] → -(2 ^ 62) ≤ j) ∧ Q xs ρ') (gSet 3) dYes (dTup (dCons (dVar 2) (dCons (dVar 3) dNil))) [3]) ⟨[some (eSh L C), some (.lst (acc.map eD)), some (.str w), x3], st⟩ R := by
    intro w f acc x3 R hacc hf hR
    walk_at "d"
    refine lc_deeds (L - 1) f (fun W hW => ?_) (fun a ha P hP => ?_) ?_
    · walk_at "d"
      refine ⟨by omega, by omega, ?_⟩
      rw [sub1 L hL0, ints_nat]; exact hW
    · walk_at "d"
      refine ⟨by decide, ?_⟩
      have ed : eD (f a) = .tup [.str w, .int (a : Int)] := by unfold eD; rw [(hf a).1, (hf a).2]
      rw [← ed]
      exact hP _ rfl
    · walk_at "d"
      refine ⟨by simp; omega, ?_⟩
      rw [← List.map_append]
      exact hR
  refine dFor_pre (α := Str × (Nat → Deed)) (e := fun p => .str p.1) (l := [("press", .press), ("swap", .swap)]) (fun d2 ρ' => ∃ x2 x3, ρ' = ⟨[some (eSh L C), some (.lst (((List.range L).map Deed.about ++ (List.range L).map Deed.over ++ d2.flatMap fun p => (List.range (L - 1)).map p.2).map eD)), x2, x3], st⟩) (fun W hW => ?_) ⟨none, none, by simp⟩ ?_ ?_
  · walk_at "d"
    exact ⟨by decide, hW⟩
  · rintro d2 ⟨w, f⟩ rest ρ' er ⟨x2, x3, rfl⟩
    have hwf : ∀ n, (f n).word = w ∧ (f n).num = n := by
      have hm : (w, f) ∈ [(("press" : Str), Deed.press), ("swap", .swap)] := by rw [er]; simp
      simp only [List.mem_cons, List.not_mem_nil, or_false, Prod.mk.injEq] at hm
      rcases hm with ⟨rfl, rfl⟩ | ⟨rfl, rfl⟩
      · exact fun _ => ⟨rfl, rfl⟩
      · exact fun _ => ⟨rfl, rfl⟩
    have hd2 : d2.length ≤ 1 := by
      have := congrArg List.length er
      simp only [List.length_cons, List.length_nil, List.length_append] at this
      omega
    simp only [ap_gset, List.set_cons_succ, List.set_cons_zero, ap_asg]
    refine key w f _ x3 _ ?_ hwf ?_
    · have hfl : ∀ l : List (Str × (Nat → Deed)), (l.flatMap fun p => (List.range (L - 1)).map p.2).length = l.length * (L - 1) := by
        intro l
        induction l with
        | nil => simp
        | cons p l ih => rw [List.flatMap_cons, List.length_append, ih, List.length_map, List.length_range, List.length_cons, Nat.add_mul, Nat.one_mul, Nat.add_comm]
      have h3 := Nat.mul_le_mul_right (L - 1) hd2
      rw [List.length_append, hfl, List.length_append, List.length_map, List.length_map, List.length_range]
      omega
    · rw [List.flatMap_append]
      simp only [List.flatMap_cons, List.flatMap_nil, List.append_nil]
      rw [← List.append_assoc]
      exact ⟨_, _, rfl⟩
  · rintro ρ' ⟨x2, x3, rfl⟩
    walk_at "d"
    have e : (List.range L).map Deed.about ++ (List.range L).map Deed.over ++ [(("press" : Str), Deed.press), ("swap", .swap)].flatMap (fun p => (List.range (L - 1)).map p.2) = deedsM L := by
      unfold deedsM
      simp
    rw [e]
    exact ret_same wf (bel_mapL fun _ _ => bel_eD _ _) h
theorem eSta_ok (n : Nat) (z : State) : bel n (eSta z) := (bel_tup _ _).mpr fun d hd => by
  simp only [List.mem_cons, List.not_mem_nil, or_false] at hd
  rcases hd with rfl | rfl
  · exact bel_st _ _
  · exact bel_e3 _ _
theorem sp_later : ∀ (ds : List D) st' Q, ds.length = 4 → WfS st' → F_later ds st' Q → b_later (endsOf st'.length Q) ⟨startD 5 ds, st'⟩ := by
  rintro ds st Q hl wf ⟨L, C, s, x, d, rfl, ok, hs, hC, h⟩
  show b_later _ ⟨[some (eSh L C), some (eSt s), some (e3 x), some (eD d), none], st⟩
  unfold b_later
  unfold laterM at h
  walk_at "d"
  refine ⟨sh_word d, sh_press, ?_⟩
  cases q : isPress d with
  | none =>
    rw [q] at h
    have hne := ne_press d q
    refine (if_pos (by simpa using hne)).mpr ?_
    refine ⟨s, d, rfl, ok, hs.sz, by decide, by decide, ret_same wf ?_ h⟩
    exact bel_mapL (e := eSta) (l := [(movedM s d, x)]) fun _ _ => eSta_ok _ _
  | some k =>
    obtain ⟨rfl⟩ : d = .press k := by cases d <;> simp [isPress] at q; rw [q]
    rw [q] at h
    refine (if_neg (by simp [Deed.word])).mpr ?_
    have hk : k + 1 < s.length := ok
    simp only [show (Deed.press k).num = k from rfl]
    refine ⟨L, C, s, k, _, _, rfl, List.getElem?_eq_getElem (by omega), List.getElem?_eq_getElem hk, hs.nd, hs.ov _ (List.getElem_mem _), hC, _, x, rfl, by decide, by decide, ?_⟩
    simp only at h
    rw [pairsAt_eq hk] at h
    cases q2 : partM (pairsM C s[k] s[k + 1]) x with
    | none =>
      rw [q2] at h
      simp only [eO, isN_n, Bool.not_true, Bool.false_eq_true, if_false]
      refine ⟨by decide, by decide, ret_same wf ?_ h⟩
      exact bel_mapL (e := eSta) (l := [(s, x)]) fun _ _ => eSta_ok _ _
    | some t =>
      rw [q2] at h
      simp only [eO, isNon_e3, Bool.not_false, if_true]
      refine ⟨by decide, by decide, by decide, ret_same wf ?_ h⟩
      exact bel_mapL (e := eSta) (l := [(s, x), (s, t)]) fun _ _ => eSta_ok _ _
theorem sp_law_cells : ∀ (ds : List D) st' Q, ds.length = 2 → WfS st' → F_law_cells ds st' Q → b_law_cells (endsOf st'.length Q) ⟨startD 3 ds, st'⟩ := by
  rintro ds st Q hl wf ⟨L, C, a, rfl, hC, h⟩
  show b_law_cells _ ⟨[some (eSh L C), some (.int a), none], st⟩
  unfold b_law_cells
  walk_at "d"
  refine ⟨C, rfl, by omega, ?_⟩
  rw [ints_nat']
  unfold cellsM at h
  refine ite_dec (fun h1 => ?_) (fun h1 => ?_)
  · rw [if_pos h1, List.map_reverse, List.map_map] at h
    refine ret_same wf ?_ h
    rw [← List.map_reverse]
    exact bel_mapL fun _ _ => bel_int _ _
  · rw [if_neg h1, List.map_map] at h
    exact ret_same wf (bel_mapL fun _ _ => bel_int _ _) h
theorem sp_law_over : ∀ (ds : List D) st' Q, ds.length = 2 → WfS st' → F_law_over ds st' Q → b_law_over (endsOf st'.length Q) ⟨startD 4 ds, st'⟩ := by
  rintro ds st Q hl wf ⟨ps, x, rfl, h⟩
  show b_law_over _ ⟨[some (ePrs ps), some (e3 x), none, none], st⟩
  unfold b_law_over
  walk_at "d"
  refine dFor_pre (e := ePr) (l := ps) (fun done ρ' => (∃ rest, ps = done ++ rest ∧ overM ps x = overM rest x) ∧ ∃ a b, ρ' = ⟨[some (ePrs ps), some (e3 x), a, b], st⟩) (fun L hL => ?_) ⟨⟨ps, rfl, rfl⟩, _, _, rfl⟩ ?_ ?_
  · walk_at "d"
    exact hL
  · rintro done ⟨p, q⟩ rest ρ' er ⟨⟨rest', er', hp⟩, a, b, rfl⟩
    have : rest' = (p, q) :: rest := List.append_cancel_left (er'.symm.trans er)
    subst this
    show gTupD 2 _ (.tup [e3 p, e3 q]) _ _
    walk_at "d"
    rw [show overM ((p, q) :: rest) x = (if p = x then some q else if q = x then some p else overM rest x) from rfl] at hp
    refine ite_dec (fun hx => ?_) (fun hx => ?_)
    · rw [if_pos hx] at hp
      rw [hp] at h
      exact ret_same wf (bel_e3 _ _) h
    · rw [if_neg hx] at hp
      refine ite_dec (fun hx1 => ?_) (fun hx1 => ?_)
      · rw [if_pos hx1] at hp
        rw [hp] at h
        exact ret_same wf (bel_e3 _ _) h
      · rw [if_neg hx1] at hp
        exact ⟨⟨rest, by rw [er]; simp, hp⟩, _, _, rfl⟩
  · rintro ρ' ⟨⟨rest', er', hp⟩, a, b, rfl⟩
    have : rest' = [] := by
      have := congrArg List.length er'
      rw [List.length_append] at this
      exact List.eq_nil_of_length_eq_zero (by omega)
    subst this
    rw [hp] at h
    walk_at "d"
    exact ret_same wf (bel_non _) h
end BB
set_option maxRecDepth 100000
set_option maxHeartbeats 1000000
namespace BB
open PySem PySem.Spec PyProof.Rows L2
local macro_rules | `(tactic| walk_at "d") => `(tactic| simp only [ap_var, ap_c, ap_op, ap_b, ap_chain, ap_isN, ap_notN, ap_not, ap_and, ap_or, ap_notV, ap_andV, ap_orV, ap_if, ap_nil, ap_cons, ap_tup, ap_lst, ap_newL, ap_call, ap_bt, ap_bm, ap_sl, ap_no, ap_some, ap_rev, ap_frz, ap_get2, ap_oneT, ap_newT, ap_newS, ap_dictNew, ap_isi, ap_gset, ap_gend, ap_gmore, ap_gtup, ap_gtup3, ap_gsub, ap_next, ap_seq, ap_drop, ap_ret, ap_retN, ap_brk, ap_cont, ap_ifS, ap_asg, ap_par, ap_par3, ap_aug, ap_onx, ap_ort, ap_it, ap_enum, ap_items, ap_rg1, ap_rg2, ap_zip, ap_eq, ap_ne, ap_i2, ap_arI, ap_addI, ap_addT, ap_addL, ap_ixT, ap_ixL, ap_ix3, ap_wlen, ap_wtup, ap_btN, ap_isiA, ap_lstRg, ap_ixMk, ap_min2, ap_max2, ap_ixDr, ap_gtupDr2, ap_gtupE, ex_at0, ex_at1, ex_at2, ex_bl, ex_int, ex_sli, ex_som, ex_ptr, ex_l1i, ex_l1l, al_l1i, ex_one,
  List.getElem?_cons_zero, List.getElem?_cons_succ, List.set_cons_zero, List.set_cons_succ, List.length_cons, List.length_nil, deq_int, deq_str, deq_e3, vw_e3, vw_i, vw_t, vw_l, vw_s, vw_n, vw_b, true_and, and_true, sh_i64, sh_n64, List.nil_append, List.cons_append, isN_n, isN_i, isN_t, isN_l, isN_b, isN_p, isNon_e3, Bool.not_false, Bool.not_true, if_true, if_false, Bool.false_eq_true, decide_eq_true_eq, ite_true, ite_false, Bool.not_eq_true', decide_eq_false_iff_not, vw_sh, vw_st, ap_ixSh, ap_ixD, ap_ixSt, sh_t3, ap_gtupD, vw_eD, wipeD, reduceIte, Bool.true_eq_false])
theorem sp_law_pairs : ∀ (ds : List D) st' Q, ds.length = 3 → WfS st' → F_law_pairs ds st' Q → b_law_pairs (endsOf st'.length Q) ⟨startD 13 ds, st'⟩ := by
  rintro ds st Q hl wf ⟨L, C, s, g, p, q, rfl, h1, h2, hC, h⟩
  show b_law_pairs _ ⟨[some (eSh L C), some (eSt s), some (.int (g : Int)), none, none, none, none, none, none, none, none, none, none], st⟩
  unfold b_law_pairs
  walk_at "d"
  rw [ex_st h1]
  walk_at "d"
  rw [show ((g : Int) + 1) = ((g + 1 : Nat) : Int) from by omega, ex_st h2]
  walk_at "d"
  refine ⟨L, C, p.2.2, rfl, hC, L, C, q.2.2, rfl, hC, _, _, rfl, ?_⟩
  refine dLc_map (α := Int × Int) (l := (cellsM C p.2.2).zip (cellsM C q.2.2)) (e := fun z => .tup [.int z.1, .int z.2]) (f := fun z => ePr ((p.1, 1 - p.2.1, z.1), (q.1, q.2.1, z.2))) (fun W hW => ?_) (fun z hz P hP => ?_) ?_
  · walk_at "d"
    rw [zip_cut]
    exact hW
  · walk_at "d"
    exact ⟨by decide, by decide, by decide, hP _ rfl⟩
  · have e : (((cellsM C p.2.2).zip (cellsM C q.2.2)).map fun z => ePr ((p.1, 1 - p.2.1, z.1), (q.1, q.2.1, z.2))) = (lawPairs C p q).map ePr := by unfold lawPairs; rw [List.map_map]; rfl
    rw [e]
    exact ret_same wf (bel_ePrs _ _) h
theorem set_swap {α : Type} : ∀ (s : List α) (n : Nat) (h : n + 1 < s.length), (s.set n s[n + 1]).set (n + 1) s[n] = swapM s n
  | x :: y :: l, 0, h => by simp [swapM]
  | x :: l, n + 1, h => by
    have h' : n + 1 < l.length := by simpa using h
    rw [swapM]
    have := set_swap l n h'
    simp only [List.set_cons_succ, List.getElem_cons_succ]
    rw [this]
  | [x], 0, h => by simp at h
  | [], _, h => by simp at h
theorem set_mod {α : Type} (f : α → α) : ∀ (s : List α) (n : Nat) (h : n < s.length), s.set n (f s[n]) = modM f s n
  | x :: l, 0, h => by simp [modM]
  | x :: l, n + 1, h => by
    have h' : n < l.length := by simpa using h
    rw [modM, ← set_mod f l n h']
    simp
  | [], _, h => by simp at h
theorem set_map' {α β : Type} (f : α → β) (s : List α) (n : Nat) (x : α) : (s.map f).set n (f x) = (s.set n x).map f := (List.map_set (f := f) (l := s) (i := n) (a := x)).symm
theorem sp_law_moved : ∀ (ds : List D) st' Q, ds.length = 2 → WfS st' → F_law_moved ds st' Q → b_law_moved (endsOf st'.length Q) ⟨startD 5 ds, st'⟩ := by
  rintro ds st Q hl wf ⟨s, d, rfl, ok, hs, h⟩
  show b_law_moved _ ⟨[some (eSt s), some (eD d), none, none, none], st⟩
  unfold b_law_moved
  walk_at "d"
  refine ⟨eSt s, rfl, ?_⟩
  rw [vw_st]
  walk_at "d"
  refine ⟨sh_word d, sh_swap, ?_⟩
  have fin : ∀ s' : Stand, s' = movedM s d → retOk st.length Q (.tup (s'.map e3)) (st ++ [.lst (s'.map e3)]) := fun s' e => by
    subst e
    exact ret_app wf (bel_st _ _) h
  have rd : ∀ (s' : Stand) (i : Nat) (hi : i < s'.length) (Z : D → Prop), Z (e3 s'[i]) → wIxA (.ptr st.length) (.int (i : Int)) (st ++ [.lst (s'.map e3)]) Z := fun s' i hi Z hz => by
    rw [ix_cell (app_get _ _), ex_st (List.getElem?_eq_getElem hi)]
    exact hz
  have wr : ∀ (s' : Stand) (i : Nat) (hi : i < s'.length) (p : T3) (P : List Cell → Prop), P (st ++ [.lst ((s'.set i p).map e3)]) → wSetA (.ptr st.length) (.int (i : Int)) (e3 p) (st ++ [.lst (s'.map e3)]) P := fun s' i hi p P hp => by
    refine set_cellL (app_get _ _) i (by simpa using hi) _ ?_
    rw [app_set, set_map']
    exact hp
  cases d with
  | press n =>
    refine (if_neg (show ¬ (("press" : Str) = "swap") by decide +kernel)).mpr ⟨sh_press, sh_over, (if_neg (show ¬ (("press" : Str) = "over") by decide +kernel)).mpr ⟨sh_press, sh_about, (if_neg (show ¬ (("press" : Str) = "about") by decide +kernel)).mpr ?_⟩⟩
    rw [vw_cell (app_get _ _)]
    exact fin s rfl
  | wait n =>
    refine (if_neg (show ¬ (("wait" : Str) = "swap") by decide +kernel)).mpr ⟨sh_wait, sh_over, (if_neg (show ¬ (("wait" : Str) = "over") by decide +kernel)).mpr ⟨sh_wait, sh_about, (if_neg (show ¬ (("wait" : Str) = "about") by decide +kernel)).mpr ?_⟩⟩
    rw [vw_cell (app_get _ _)]
    exact fin s rfl
  | swap n =>
    have hn : n + 1 < s.length := ok
    refine (if_pos rfl).mpr ?_
    simp only [show (Deed.swap n).num = n from rfl, show ((n : Int) + 1) = ((n + 1 : Nat) : Int) from by omega]
    refine rd s (n + 1) hn _ (rd s n (by omega) _ ⟨by decide, wr s n (by omega) _ _ ?_⟩)
    refine wr _ (n + 1) (by simpa using hn) _ _ ?_
    rw [set_swap s n hn]
    refine ⟨sh_swap, sh_over, (if_neg (show ¬ (("swap" : Str) = "over") by decide +kernel)).mpr ⟨sh_swap, sh_about, (if_neg (show ¬ (("swap" : Str) = "about") by decide +kernel)).mpr ?_⟩⟩
    rw [vw_cell (app_get _ _)]
    exact fin _ rfl
  | over n =>
    have hn : n < s.length := ok
    refine (if_neg (show ¬ (("over" : Str) = "swap") by decide +kernel)).mpr ⟨sh_over, sh_over, (if_pos rfl).mpr ?_⟩
    simp only [show (Deed.over n).num = n from rfl]
    refine rd s n hn _ ?_
    walk_at "d"
    refine rd s n hn _ ?_
    walk_at "d"
    refine rd s n hn _ ?_
    walk_at "d"
    refine ⟨by decide, wr s n hn (s[n].1, 1 - s[n].2.1, s[n].2.2) _ ?_⟩
    rw [set_mod (fun p : T3 => (p.1, 1 - p.2.1, p.2.2)) s n hn]
    refine ⟨sh_over, sh_about, (if_neg (show ¬ (("over" : Str) = "about") by decide +kernel)).mpr ?_⟩
    rw [vw_cell (app_get _ _)]
    exact fin _ rfl
  | about n =>
    have hn : n < s.length := ok
    refine (if_neg (show ¬ (("about" : Str) = "swap") by decide +kernel)).mpr ⟨sh_about, sh_over, (if_neg (show ¬ (("about" : Str) = "over") by decide +kernel)).mpr ⟨sh_about, sh_about, (if_pos rfl).mpr ?_⟩⟩
    simp only [show (Deed.about n).num = n from rfl]
    refine rd s n hn _ ?_
    walk_at "d"
    refine rd s n hn _ ?_
    walk_at "d"
    refine rd s n hn _ ?_
    walk_at "d"
    refine ⟨by decide, wr s n hn (s[n].1, s[n].2.1, 1 - s[n].2.2) _ ?_⟩
    rw [set_mod (fun p : T3 => (p.1, p.2.1, 1 - p.2.2)) s n hn]
    rw [vw_cell (app_get _ _)]
    exact fin _ rfl
end BB
set_option maxRecDepth 100000
set_option maxHeartbeats 1000000
namespace BB
open PySem PySem.Spec PyProof.Rows L2
local macro_rules | `(tactic| walk_at "d") => `(tactic| simp only [ap_var, ap_c, ap_op, ap_b, ap_chain, ap_isN, ap_notN, ap_not, ap_and, ap_or, ap_notV, ap_andV, ap_orV, ap_if, ap_nil, ap_cons, ap_tup, ap_lst, ap_newL, ap_call, ap_bt, ap_bm, ap_sl, ap_no, ap_some, ap_rev, ap_frz, ap_get2, ap_oneT, ap_newT, ap_newS, ap_dictNew, ap_isi, ap_gset, ap_gend, ap_gmore, ap_gtup, ap_gtup3, ap_gsub, ap_next, ap_seq, ap_drop, ap_ret, ap_retN, ap_brk, ap_cont, ap_ifS, ap_asg, ap_par, ap_par3, ap_aug, ap_onx, ap_ort, ap_it, ap_enum, ap_items, ap_rg1, ap_rg2, ap_zip, ap_eq, ap_ne, ap_i2, ap_arI, ap_addI, ap_addT, ap_addL, ap_ixT, ap_ixL, ap_ix3, ap_wlen, ap_wtup, ap_btN, ap_isiA, ap_lstRg, ap_ixMk, ap_min2, ap_max2, ap_ixDr, ap_gtupDr2, ap_gtupE, ex_at0, ex_at1, ex_at2, ex_bl, ex_int, ex_sli, ex_som, ex_ptr, ex_l1i, ex_l1l, al_l1i, ex_one,
  List.getElem?_cons_zero, List.getElem?_cons_succ, List.set_cons_zero, List.set_cons_succ, List.length_cons, List.length_nil, deq_int, deq_str, deq_e3, vw_e3, vw_i, vw_t, vw_l, vw_s, vw_n, vw_b, true_and, and_true, sh_i64, sh_n64, List.nil_append, List.cons_append, isN_n, isN_i, isN_t, isN_l, isN_b, isN_p, isNon_e3, Bool.not_false, Bool.not_true, if_true, if_false, Bool.false_eq_true, decide_eq_true_eq, ite_true, ite_false, Bool.not_eq_true', decide_eq_false_iff_not, vw_sh, vw_st, ap_ixSh, ap_ixD, ap_ixSt, sh_t3, ap_gtupD, vw_eD, wipeD, reduceIte, Bool.true_eq_false])
/-! ### rows gone back -/
theorem swapM_inv {α : Type} : ∀ (s : List α) (n : Nat), n + 1 < s.length → swapM (swapM s n) n = s
  | x :: y :: l, 0, _ => by simp [swapM]
  | x :: l, n + 1, h => by
    have h' : n + 1 < l.length := by simpa using h
    rw [swapM, swapM, swapM_inv l n h']
  | [x], 0, h => by simp at h
  | [], _, h => by simp at h
theorem modM_inv {α : Type} {f : α → α} (hf : ∀ x, f (f x) = x) : ∀ (s : List α) (n : Nat), modM f (modM f s n) n = s
  | x :: l, 0 => by simp [modM, hf]
  | x :: l, n + 1 => by simp [modM, modM_inv hf l n]
  | [], _ => by simp [modM]
theorem movedM_inv {s : Stand} {d : Deed} (h : okDeed s.length d) : movedM (movedM s d) d = s := by
  cases d with
  | press n => rfl
  | wait n => rfl
  | swap n => exact swapM_inv s n h
  | over n => exact modM_inv (fun x => by
      obtain ⟨a, b, c⟩ := x
      show (a, 1 - (1 - b), c) = (a, b, c)
      rw [show 1 - (1 - b) = b by omega]) s n
  | about n => exact modM_inv (fun x => by
      obtain ⟨a, b, c⟩ := x
      show (a, b, 1 - (1 - c)) = (a, b, c)
      rw [show 1 - (1 - c) = c by omega]) s n
theorem behindM_app (s : Stand) (r r' : List Deed) : behindM s (r ++ r') = behindM (behindM s r) r' := by simp [behindM]
theorem behindM_inv : ∀ (r : List Deed) (s : Stand), (∀ d ∈ r, okDeed s.length d) → behindM (behindM s r) r.reverse = s
  | [], s, _ => rfl
  | d :: r, s, h => by
    rw [List.reverse_cons, behindM_snoc]
    have e : behindM s (d :: r) = behindM (movedM s d) r := rfl
    rw [e, behindM_inv r (movedM s d) (fun d' hd => by rw [movedM_len]; exact h d' (List.mem_cons_of_mem _ hd)), movedM_inv (h d List.mem_cons_self)]
theorem ticksM_rev (r : List Deed) : ticksM r.reverse = ticksM r := by
  unfold ticksM
  rw [List.map_reverse, List.sum_reverse]
theorem ticksM_cons (d : Deed) (r : List Deed) : ticksM (d :: r) = takesM d + ticksM r := by simp [ticksM]
def flipE (n : Nat) (t : Int) (e : Ev) : Ev := (n - 1 - e.1, t - 1 - e.2.1, e.2.2)
def shiftE (n : Nat) (t : Int) (e : Ev) : Ev := (e.1 + n, e.2.1 + t, e.2.2)
theorem pressM_shift (C : Nat) (n : Nat) (u : Int) : ∀ (r : List Deed) (s : Stand) (a : Nat) (t : Int), pressM C s (a + n) (t + u) r = (pressM C s a t r).map (shiftE n u)
  | [], s, a, t => rfl
  | d :: r, s, a, t => by
    rw [pressM, pressM, List.map_append]
    have e1 : a + n + 1 = (a + 1) + n := by omega
    have e2 : t + u + takesM d = (t + takesM d) + u := by omega
    rw [e1, e2, pressM_shift C n u r (movedM s d) (a + 1) (t + takesM d)]
    congr 1
    cases isPress d <;> rfl
theorem movedM_press {s : Stand} {d : Deed} {k : Nat} (h : isPress d = some k) : movedM s d = s ∧ takesM d = 1 := by
  cases d <;> first | exact ⟨rfl, rfl⟩ | cases h
theorem evs_rev (C : Nat) : ∀ (r : List Deed) (s : Stand), (∀ d ∈ r, okDeed s.length d) → evsOf C (behindM s r) r.reverse = (evsOf C s r).reverse.map (flipE r.length (ticksM r))
  | [], s, _ => rfl
  | d :: r, s, h => by
    have h' : ∀ d' ∈ r, okDeed (movedM s d).length d' := fun d' hd => by rw [movedM_len]; exact h d' (List.mem_cons_of_mem _ hd)
    have ih := evs_rev C r (movedM s d) h'
    have eb : behindM s (d :: r) = behindM (movedM s d) r := rfl
    rw [List.reverse_cons, eb]
    unfold evsOf at ih ⊢
    rw [pressM_snoc, ih, behindM_inv r _ h', pressM, List.reverse_append, List.map_append]
    congr 1
    · have := pressM_shift C 1 (takesM d) r (movedM s d) 0 0
      rw [this, ← List.map_reverse, List.map_map]
      apply List.map_congr_left
      intro e _
      unfold flipE shiftE
      simp only [Function.comp, List.length_cons, ticksM_cons]
      have e1 : r.length - 1 - e.1 = r.length + 1 - 1 - (e.1 + 1) := by omega
      have e2 : ticksM r - 1 - e.2.1 = takesM d + ticksM r - 1 - (e.2.1 + takesM d) := by omega
      rw [e1, e2]
    · unfold evOf
      cases q : isPress d with
      | none => rfl
      | some k =>
        obtain ⟨e1, e2⟩ := movedM_press (s := s) q
        simp only [List.reverse_cons, List.reverse_nil, List.nil_append, List.map_cons, List.map_nil, e1]
        unfold flipE
        simp only [List.length_cons, ticksM_cons, e2, List.length_reverse, ticksM_rev]
        congr 2
        · omega
        · congr 1
          omega
/-! ### places of the events -/
theorem press_at (C : Nat) : ∀ (r : List Deed) (s : Stand) (a : Nat) (t : Int), (∀ d ∈ r, 1 ≤ takesM d) → (∀ e ∈ pressM C s a t r, a ≤ e.1 ∧ e.1 < a + r.length ∧ t ≤ e.2.1 ∧ e.2.1 < t + ticksM r) ∧ (pressM C s a t r).Pairwise fun e e' => e.1 < e'.1 ∧ e.2.1 < e'.2.1
  | [], s, a, t, _ => ⟨fun e he => (nomatch he), List.Pairwise.nil⟩
  | d :: r, s, a, t, h => by
    obtain ⟨h1, h2⟩ := press_at C r (movedM s d) (a + 1) (t + takesM d) fun d' hd => h d' (List.mem_cons_of_mem _ hd)
    have hd := h d List.mem_cons_self
    have hr : 0 ≤ ticksM r := by
      have : ∀ l : List Deed, (∀ d ∈ l, 1 ≤ takesM d) → 0 ≤ ticksM l := by
        intro l
        induction l with
        | nil => exact fun _ => Int.le_refl _
        | cons d l ih =>
          intro hl
          rw [ticksM_cons]
          have := ih fun d' hd => hl d' (List.mem_cons_of_mem _ hd)
          have := hl d List.mem_cons_self
          omega
      exact this r fun d' hd => h d' (List.mem_cons_of_mem _ hd)
    rw [pressM]
    cases q : isPress d with
    | none =>
      rw [List.nil_append]
      refine ⟨fun e he => ?_, h2⟩
      have := h1 e he
      rw [ticksM_cons, List.length_cons]
      omega
    | some k =>
      obtain ⟨_, e2⟩ := movedM_press (s := s) q
      refine ⟨fun e he => ?_, ?_⟩
      · rw [ticksM_cons, List.length_cons]
        rcases List.mem_append.mp he with he | he
        · have : e = (a, t, pairsAt C s k) := by simpa using he
          rw [this]
          simp only
          omega
        · have := h1 e he
          omega
      · rw [List.singleton_append, List.pairwise_cons]
        refine ⟨fun e he => ?_, h2⟩
        have := h1 e he
        simp only
        omega
/-! ### pairs: a matching -/
def Disj (ps : List Pr) : Prop := (ps.map (·.1) ++ ps.map (·.2)).Nodup
theorem part_iff : ∀ {ps : List Pr}, Disj ps → ∀ x y, partM ps x = some y ↔ (x, y) ∈ ps ∨ (y, x) ∈ ps
  | [], _, x, y => by simp [partM]
  | (a, b) :: r, h, x, y => by
    have hn := h
    unfold Disj at h
    simp only [List.map_cons, List.cons_append, List.nodup_cons, List.mem_append, List.mem_cons] at h
    have h1 := (List.nodup_append.mp h.2).1
    have h2 := (List.nodup_append.mp h.2).2.1
    have h3 := (List.nodup_append.mp h.2).2.2
    rw [List.nodup_cons] at h2
    have hab : a ≠ b := fun e => h.1 (.inr (.inl e))
    have hr : Disj r := by
      refine List.nodup_append.mpr ⟨h1, h2.2, fun p hp q hq => h3 p hp q (List.mem_cons_of_mem _ hq)⟩
    have ha : ∀ z, (a, z) ∉ r ∧ (z, a) ∉ r := fun z => ⟨fun hz => h.1 (.inl (List.mem_map_of_mem (f := fun p : Pr => p.1) hz)), fun hz => h.1 (.inr (.inr (List.mem_map_of_mem (f := fun p : Pr => p.2) hz)))⟩
    have hb : ∀ z, (b, z) ∉ r ∧ (z, b) ∉ r := fun z => ⟨fun hz => h3 b (List.mem_map_of_mem (f := fun p : Pr => p.1) hz) b List.mem_cons_self rfl, fun hz => h2.1 (List.mem_map_of_mem (f := fun p : Pr => p.2) hz)⟩
    rw [show partM ((a, b) :: r) x = (if x = a then some b else if x = b then some a else partM r x) from rfl]
    by_cases e1 : x = a
    · rw [if_pos e1]
      subst e1
      constructor
      · intro e; cases e; exact .inl List.mem_cons_self
      · rintro (z | z)
        · rcases List.mem_cons.mp z with z | z
          · rw [(Prod.mk.inj z).2]
          · exact absurd z (ha y).1
        · rcases List.mem_cons.mp z with z | z
          · exact absurd (Prod.mk.inj z).2 hab
          · exact absurd z (ha y).2
    · rw [if_neg e1]
      by_cases e2 : x = b
      · rw [if_pos e2]
        subst e2
        constructor
        · intro e; cases e; exact .inr List.mem_cons_self
        · rintro (z | z)
          · rcases List.mem_cons.mp z with z | z
            · exact absurd (Prod.mk.inj z).1 e1
            · exact absurd z (hb y).1
          · rcases List.mem_cons.mp z with z | z
            · rw [(Prod.mk.inj z).1]
            · exact absurd z (hb y).2
      · rw [if_neg e2, part_iff hr x y]
        constructor
        · rintro (z | z)
          · exact .inl (List.mem_cons_of_mem _ z)
          · exact .inr (List.mem_cons_of_mem _ z)
        · rintro (z | z)
          · rcases List.mem_cons.mp z with z | z
            · exact absurd (Prod.mk.inj z).1 e1
            · exact .inl z
          · rcases List.mem_cons.mp z with z | z
            · exact absurd (Prod.mk.inj z).2 e2
            · exact .inr z
theorem part_inv {ps : List Pr} (h : Disj ps) {x y : T3} (e : partM ps x = some y) : partM ps y = some x := by
  rw [part_iff h] at e ⊢
  exact e.symm
/-! ### what is reached -/
def Rch : List (List Pr) → T3 → T3 → Prop
  | [], x, y => x = y
  | p :: l, x, y => Rch l x y ∨ ∃ z, partM p x = some z ∧ Rch l z y
theorem Rch.refl : ∀ (l : List (List Pr)) (x : T3), Rch l x x
  | [], x => rfl
  | _ :: l, x => .inl (Rch.refl l x)
theorem Rch.snoc : ∀ (l : List (List Pr)) (p : List Pr) (x y : T3), Rch (l ++ [p]) x y ↔ Rch l x y ∨ ∃ z, Rch l x z ∧ partM p z = some y
  | [], p, x, y => by
    show ((x = y) ∨ ∃ z, partM p x = some z ∧ z = y) ↔ (x = y) ∨ ∃ z, x = z ∧ partM p z = some y
    constructor
    · rintro (h | ⟨z, h, rfl⟩)
      · exact .inl h
      · exact .inr ⟨x, rfl, h⟩
    · rintro (h | ⟨z, rfl, h⟩)
      · exact .inl h
      · exact .inr ⟨y, h, rfl⟩
  | q :: l, p, x, y => by
    show (Rch (l ++ [p]) x y ∨ ∃ z, partM q x = some z ∧ Rch (l ++ [p]) z y) ↔ (Rch l x y ∨ ∃ z, partM q x = some z ∧ Rch l z y) ∨ ∃ z, (Rch l x z ∨ ∃ u, partM q x = some u ∧ Rch l u z) ∧ partM p z = some y
    rw [Rch.snoc l p x y]
    constructor
    · rintro ((h | ⟨z, h1, h2⟩) | ⟨u, h1, h2⟩)
      · exact .inl (.inl h)
      · exact .inr ⟨z, .inl h1, h2⟩
      · rcases (Rch.snoc l p u y).mp h2 with h2 | ⟨z, h2, h3⟩
        · exact .inl (.inr ⟨u, h1, h2⟩)
        · exact .inr ⟨z, .inr ⟨u, h1, h2⟩, h3⟩
    · rintro ((h | ⟨u, h1, h2⟩) | ⟨z, (h1 | ⟨u, h1, h2⟩), h3⟩)
      · exact .inl (.inl h)
      · exact .inr ⟨u, h1, (Rch.snoc l p u y).mpr (.inl h2)⟩
      · exact .inl (.inr ⟨z, h1, h3⟩)
      · exact .inr ⟨u, h1, (Rch.snoc l p u y).mpr (.inr ⟨z, h2, h3⟩)⟩
theorem Rch.rev : ∀ (l : List (List Pr)) (x y : T3), (∀ p ∈ l, Disj p) → Rch l x y → Rch l.reverse y x
  | [], x, y, _, h => h.symm
  | p :: l, x, y, hd, h => by
    rw [List.reverse_cons, Rch.snoc]
    rcases h with h | ⟨z, h1, h2⟩
    · exact .inl (Rch.rev l x y (fun q hq => hd q (List.mem_cons_of_mem _ hq)) h)
    · exact .inr ⟨z, Rch.rev l z y (fun q hq => hd q (List.mem_cons_of_mem _ hq)) h2, part_inv (hd p List.mem_cons_self) h1⟩
theorem Rch.sub {l l' : List (List Pr)} (hs : l.Sublist l') : ∀ {x y : T3}, Rch l x y → Rch l' x y := by
  induction hs with
  | slnil => exact fun h => h
  | cons a _ ih => exact fun h => .inl (ih h)
  | cons_cons a _ ih =>
    rintro x y (h | ⟨z, h1, h2⟩)
    · exact .inl (ih h)
    · exact .inr ⟨z, h1, ih h2⟩
def prs (E : List Ev) : List (List Pr) := E.map fun e => e.2.2
end BB
set_option maxRecDepth 100000
set_option maxHeartbeats 1000000
namespace BB
open PySem PySem.Spec PyProof.Rows L2
local macro_rules | `(tactic| walk_at "d") => `(tactic| simp only [ap_var, ap_c, ap_op, ap_b, ap_chain, ap_isN, ap_notN, ap_not, ap_and, ap_or, ap_notV, ap_andV, ap_orV, ap_if, ap_nil, ap_cons, ap_tup, ap_lst, ap_newL, ap_call, ap_bt, ap_bm, ap_sl, ap_no, ap_some, ap_rev, ap_frz, ap_get2, ap_oneT, ap_newT, ap_newS, ap_dictNew, ap_isi, ap_gset, ap_gend, ap_gmore, ap_gtup, ap_gtup3, ap_gsub, ap_next, ap_seq, ap_drop, ap_ret, ap_retN, ap_brk, ap_cont, ap_ifS, ap_asg, ap_par, ap_par3, ap_aug, ap_onx, ap_ort, ap_it, ap_enum, ap_items, ap_rg1, ap_rg2, ap_zip, ap_eq, ap_ne, ap_i2, ap_arI, ap_addI, ap_addT, ap_addL, ap_ixT, ap_ixL, ap_ix3, ap_wlen, ap_wtup, ap_btN, ap_isiA, ap_lstRg, ap_ixMk, ap_min2, ap_max2, ap_ixDr, ap_gtupDr2, ap_gtupE, ex_at0, ex_at1, ex_at2, ex_bl, ex_int, ex_sli, ex_som, ex_ptr, ex_l1i, ex_l1l, al_l1i, ex_one,
  List.getElem?_cons_zero, List.getElem?_cons_succ, List.set_cons_zero, List.set_cons_succ, List.length_cons, List.length_nil, deq_int, deq_str, deq_e3, vw_e3, vw_i, vw_t, vw_l, vw_s, vw_n, vw_b, true_and, and_true, sh_i64, sh_n64, List.nil_append, List.cons_append, isN_n, isN_i, isN_t, isN_l, isN_b, isN_p, isNon_e3, Bool.not_false, Bool.not_true, if_true, if_false, Bool.false_eq_true, decide_eq_true_eq, ite_true, ite_false, Bool.not_eq_true', decide_eq_false_iff_not, vw_sh, vw_st, ap_ixSh, ap_ixD, ap_ixSt, sh_t3, ap_gtupD, vw_eD, wipeD, reduceIte, Bool.true_eq_false])
theorem OkSt.moved {L : Nat} {s : Stand} (h : OkSt L s) (d : Deed) : OkSt L (movedM s d) := by
  cases d with
  | press n => exact h
  | wait n => exact h
  | swap n =>
    have p := swapM_perm s n
    exact ⟨(p.map _).trans h.lv, fun q hq => h.ov q (p.mem_iff.mp hq), fun q hq => h.ab q (p.mem_iff.mp hq)⟩
  | over n =>
    refine ⟨(modM_map (f := fun p : T3 => (p.1, 1 - p.2.1, p.2.2)) (g := fun p : T3 => p.1) (fun _ => rfl) s n).symm ▸ h.lv, fun q hq => ?_, fun q hq => ?_⟩
    · rcases modM_mem hq with z | ⟨p, hp, rfl⟩
      · exact h.ov q z
      · have := h.ov p hp
        show 1 - p.2.1 = 0 ∨ 1 - p.2.1 = 1
        omega
    · rcases modM_mem hq with z | ⟨p, hp, rfl⟩
      · exact h.ab q z
      · exact h.ab p hp
  | about n =>
    refine ⟨(modM_map (f := fun p : T3 => (p.1, p.2.1, 1 - p.2.2)) (g := fun p : T3 => p.1) (fun _ => rfl) s n).symm ▸ h.lv, fun q hq => ?_, fun q hq => ?_⟩
    · rcases modM_mem hq with z | ⟨p, hp, rfl⟩
      · exact h.ov q z
      · exact h.ov p hp
    · rcases modM_mem hq with z | ⟨p, hp, rfl⟩
      · exact h.ab q z
      · have := h.ab p hp
        show 1 - p.2.2 = 0 ∨ 1 - p.2.2 = 1
        omega
theorem OkSt.behind {L : Nat} : ∀ {r : List Deed} {s : Stand}, OkSt L s → OkSt L (behindM s r)
  | [], s, h => h
  | d :: r, s, h => OkSt.behind (r := r) (h.moved d)
theorem OkSt.len {L : Nat} {s : Stand} (h : OkSt L s) : s.length = L := by
  have := h.lv.length_eq
  simpa using this
theorem OkSt.nd {L : Nat} {s : Stand} (h : OkSt L s) : (s.map (·.1)).Nodup := by
  rw [h.lv.nodup_iff]
  exact nodup_map_on List.nodup_range (fun a _ b _ e => by exact Int.ofNat.inj e)
theorem OkSt.leaf {L : Nat} {s : Stand} (h : OkSt L s) {p : T3} (hp : p ∈ s) : 0 ≤ p.1 ∧ p.1 < L := by
  have := h.lv.mem_iff.mp (List.mem_map_of_mem (f := fun p : T3 => p.1) hp)
  obtain ⟨i, hi, e⟩ := List.mem_map.mp this
  rw [List.mem_range] at hi
  omega
theorem OkSt.stand {L : Nat} {s : Stand} (h : OkSt L s) (hL : L ≤ 1000) : OkStand s := ⟨h.nd, h.ov, h.ab, by rw [h.len]; exact hL⟩
theorem ffb_in {C : Nat} {a c : Int} (h0 : 0 ≤ c) (h1 : c < C) : 0 ≤ ffb C a c ∧ ffb C a c < C := by
  unfold ffb
  split <;> omega
theorem ffb_inj {C : Nat} {a b c c' : Int} (h : ffb C a (ffb C b c) = ffb C a (ffb C b c')) : c = c' := by
  unfold ffb at h
  split at h <;> split at h <;> omega
theorem mem_pairsM {C : Nat} {p q : T3} {x : Pr} (h : x ∈ pairsM C p q) : ∃ c : Nat, c < C ∧ x = ((p.1, 1 - p.2.1, (c : Int)), (q.1, q.2.1, ffb C q.2.2 (ffb C p.2.2 (c : Int)))) := by
  obtain ⟨c, hc, rfl⟩ := List.mem_map.mp h
  exact ⟨c, List.mem_range.mp hc, rfl⟩
theorem pairsM_disj {C : Nat} {p q : T3} (h : p.1 ≠ q.1) : Disj (pairsM C p q) := by
  unfold Disj pairsM
  rw [List.map_map, List.map_map]
  refine List.nodup_append.mpr ⟨nodup_map_on List.nodup_range fun a _ b _ e => ?_, nodup_map_on List.nodup_range fun a _ b _ e => ?_, fun x hx y hy e => ?_⟩
  · simp only [Function.comp, Prod.mk.injEq] at e
    omega
  · simp only [Function.comp, Prod.mk.injEq] at e
    have := ffb_inj e.2.2
    omega
  · obtain ⟨a, _, rfl⟩ := List.mem_map.mp hx
    obtain ⟨b, _, rfl⟩ := List.mem_map.mp hy
    exact h (congrArg (·.1) e)
theorem pairsM_box {C L : Nat} (hC : C ≤ 6) (hL : L ≤ 8) {s : Stand} (h : OkSt L s) {p q : T3} (hp : p ∈ s) (hq : q ∈ s) {x : Pr} (hx : x ∈ pairsM C p q) : x.1 ∈ box 8 2 6 ∧ x.2 ∈ box 8 2 6 := by
  obtain ⟨c, hc, rfl⟩ := mem_pairsM hx
  have l1 := h.leaf hp
  have l2 := h.leaf hq
  have o1 := h.ov p hp
  have o2 := h.ov q hq
  have f1 := ffb_in (C := C) (a := p.2.2) (c := (c : Int)) (by omega) (by omega)
  have f2 := ffb_in (C := C) (a := q.2.2) f1.1 f1.2
  constructor
  · refine mem_box ?_ ?_ ?_ ?_ ?_ ?_ <;> simp only <;> omega
  · refine mem_box ?_ ?_ ?_ ?_ ?_ ?_ <;> simp only <;> omega
theorem press_pairs {C L : Nat} (hC : C ≤ 6) (hL : L ≤ 8) : ∀ (r : List Deed) (s : Stand) (a : Nat) (t : Int), OkSt L s → (∀ d ∈ r, OkD L d) → ∀ e ∈ pressM C s a t r, Disj e.2.2 ∧ ∀ p ∈ e.2.2, p.1 ∈ box 8 2 6 ∧ p.2 ∈ box 8 2 6
  | [], s, a, t, _, _, e, he => by cases he
  | d :: r, s, a, t, hs, hr, e, he => by
    rw [pressM] at he
    rcases List.mem_append.mp he with he | he
    · cases d with
      | press k =>
        have : e = (a, t, pairsAt C s k) := by simpa [isPress] using he
        have hk : k + 1 < s.length := by rw [hs.len]; exact (hr _ List.mem_cons_self).ok
        rw [this]
        simp only
        rw [pairsAt_eq hk]
        have hne : s[k].1 ≠ s[k + 1].1 := fun e => by
          have hn := hs.nd
          have := List.pairwise_iff_getElem.mp hn k (k + 1) (by simp; omega) (by simpa using hk) (by omega)
          simp only [List.getElem_map] at this
          exact this e
        exact ⟨pairsM_disj hne, fun p hp => pairsM_box hC hL hs (List.getElem_mem _) (List.getElem_mem _) hp⟩
      | _ => cases he
    · exact press_pairs hC hL r (movedM s d) (a + 1) _ (hs.moved d) (fun d' hd => hr d' (List.mem_cons_of_mem _ hd)) e he
end BB
set_option maxRecDepth 100000
set_option maxHeartbeats 1000000
namespace BB
open PySem PySem.Spec PyProof.Rows L2
local macro_rules | `(tactic| walk_at "d") => `(tactic| simp only [ap_var, ap_c, ap_op, ap_b, ap_chain, ap_isN, ap_notN, ap_not, ap_and, ap_or, ap_notV, ap_andV, ap_orV, ap_if, ap_nil, ap_cons, ap_tup, ap_lst, ap_newL, ap_call, ap_bt, ap_bm, ap_sl, ap_no, ap_some, ap_rev, ap_frz, ap_get2, ap_oneT, ap_newT, ap_newS, ap_dictNew, ap_isi, ap_gset, ap_gend, ap_gmore, ap_gtup, ap_gtup3, ap_gsub, ap_next, ap_seq, ap_drop, ap_ret, ap_retN, ap_brk, ap_cont, ap_ifS, ap_asg, ap_par, ap_par3, ap_aug, ap_onx, ap_ort, ap_it, ap_enum, ap_items, ap_rg1, ap_rg2, ap_zip, ap_eq, ap_ne, ap_i2, ap_arI, ap_addI, ap_addT, ap_addL, ap_ixT, ap_ixL, ap_ix3, ap_wlen, ap_wtup, ap_btN, ap_isiA, ap_lstRg, ap_ixMk, ap_min2, ap_max2, ap_ixDr, ap_gtupDr2, ap_gtupE, ex_at0, ex_at1, ex_at2, ex_bl, ex_int, ex_sli, ex_som, ex_ptr, ex_l1i, ex_l1l, al_l1i, ex_one,
  List.getElem?_cons_zero, List.getElem?_cons_succ, List.set_cons_zero, List.set_cons_succ, List.length_cons, List.length_nil, deq_int, deq_str, deq_e3, vw_e3, vw_i, vw_t, vw_l, vw_s, vw_n, vw_b, true_and, and_true, sh_i64, sh_n64, List.nil_append, List.cons_append, isN_n, isN_i, isN_t, isN_l, isN_b, isN_p, isNon_e3, Bool.not_false, Bool.not_true, if_true, if_false, Bool.false_eq_true, decide_eq_true_eq, ite_true, ite_false, Bool.not_eq_true', decide_eq_false_iff_not, vw_sh, vw_st, ap_ixSh, ap_ixD, ap_ixSt, sh_t3, ap_gtupD, vw_eD, wipeD, reduceIte, Bool.true_eq_false])
theorem sp_law_deeds : ∀ (ds : List D) st' Q, ds.length = 1 → WfS st' → F_law_deeds ds st' Q → b_law_deeds (endsOf st'.length Q) ⟨startD 5 ds, st'⟩ := by
  rintro ds st Q hl wf ⟨L, C, rfl, hL0, hL, h⟩
  show b_law_deeds _ ⟨[some (eSh L C), none, none, none, none], st⟩
  have sz : 5000 < sizeLine := by decide
  unfold b_law_deeds
  walk_at "d"
  refine ⟨by decide, ?_⟩
  have hs1 := sub1 L hL0
  refine dFor_pre (α := Str × (Nat → Deed) × Nat) (e := fun p => .tup [.str p.1, .int (p.2.2 : Int)]) (l := [("about", .about, L), ("over", .over, L), ("press", .press, L - 1), ("swap", .swap, L - 1)]) (fun d2 ρ' => ∃ x2 x3 x4, ρ' = ⟨[some (eSh L C), some (.lst ((d2.flatMap fun p => (List.range p.2.2).map p.2.1).map eD)), x2, x3, x4], st⟩) (fun W hW => ?_) ⟨_, _, _, rfl⟩ ?_ ?_
  · walk_at "d"
    refine ⟨by decide, by decide, by decide, by decide, by decide, ?_⟩
    rw [hs1]
    exact hW
  · rintro d2 ⟨w, f, n⟩ rest ρ' er ⟨x2, x3, x4, rfl⟩
    have hm : ∀ p ∈ d2 ++ (w, f, n) :: rest, p ∈ [(("about" : Str), Deed.about, L), ("over", .over, L), ("press", .press, L - 1), ("swap", .swap, L - 1)] := fun p hp => by rw [er]; exact hp
    have hall : ∀ p ∈ [(("about" : Str), Deed.about, L), ("over", .over, L), ("press", .press, L - 1), ("swap", .swap, L - 1)], p.2.2 ≤ 1000 ∧ ∀ k, (p.2.1 k).word = p.1 ∧ (p.2.1 k).num = k := by
      intro p hp
      simp only [List.mem_cons, List.not_mem_nil, or_false] at hp
      rcases hp with rfl | rfl | rfl | rfl
      · exact ⟨hL, fun _ => ⟨rfl, rfl⟩⟩
      · exact ⟨hL, fun _ => ⟨rfl, rfl⟩⟩
      · exact ⟨(show L - 1 ≤ 1000 by omega), fun _ => ⟨rfl, rfl⟩⟩
      · exact ⟨(show L - 1 ≤ 1000 by omega), fun _ => ⟨rfl, rfl⟩⟩
    obtain ⟨hn, hwf⟩ := hall (w, f, n) (hm _ (by simp))
    simp only at hn hwf
    have hd2 : d2.length ≤ 3 := by
      have := congrArg List.length er
      simp only [List.length_cons, List.length_nil, List.length_append] at this
      omega
    have hfl : ∀ l : List (Str × (Nat → Deed) × Nat), (∀ p ∈ l, p.2.2 ≤ 1000) → (l.flatMap fun p => (List.range p.2.2).map p.2.1).length ≤ l.length * 1000 := by
      intro l
      induction l with
      | nil => simp
      | cons p l ih =>
        intro hp
        rw [List.flatMap_cons, List.length_append, List.length_map, List.length_range, List.length_cons]
        have := ih fun q hq => hp q (List.mem_cons_of_mem _ hq)
        have := hp p List.mem_cons_self
        omega
    have hf2 := hfl d2 fun p hp => (hall p (hm p (List.mem_append_left _ hp))).1
    walk_at "d"
    refine lc_deeds n f (fun W hW => ?_) (fun a ha P hP => ?_) ?_
    · walk_at "d"
      refine ⟨by omega, by omega, ?_⟩
      rw [ints_nat]; exact hW
    · walk_at "d"
      refine ⟨by decide, ?_⟩
      have ed : eD (f a) = .tup [.str w, .int (a : Int)] := by unfold eD; rw [(hwf a).1, (hwf a).2]
      rw [← ed]
      exact hP _ rfl
    · walk_at "d"
      refine ⟨by simp only [List.length_map, List.length_range]; omega, ?_⟩
      rw [← List.map_append, List.flatMap_append]
      simp only [List.flatMap_cons, List.flatMap_nil, List.append_nil]
      exact ⟨_, _, _, rfl⟩
  · rintro ρ' ⟨x2, x3, x4, rfl⟩
    walk_at "d"
    have e : [(("about" : Str), Deed.about, L), ("over", .over, L), ("press", .press, L - 1), ("swap", .swap, L - 1)].flatMap (fun p => (List.range p.2.2).map p.2.1) = deedsM L := by
      unfold deedsM
      simp
    rw [e]
    exact ret_same wf (bel_mapL fun _ _ => bel_eD _ _) h
/-! ### the law's pairs are the program's -/
theorem overM_eq : ∀ (ps : List Pr) (x : T3), overM ps x = partM ps x
  | [], _ => rfl
  | (a, b) :: r, x => by
    rw [show overM ((a, b) :: r) x = (if a = x then some b else if b = x then some a else overM r x) from rfl, show partM ((a, b) :: r) x = (if x = a then some b else if x = b then some a else partM r x) from rfl, overM_eq r x]
    by_cases h1 : a = x
    · rw [if_pos h1, if_pos h1.symm]
    · rw [if_neg h1, if_neg (show ¬ x = a from fun z => h1 z.symm)]
      by_cases h2 : b = x
      · rw [if_pos h2, if_pos h2.symm]
      · rw [if_neg h2, if_neg (show ¬ x = b from fun z => h2 z.symm)]
theorem cells_get {C : Nat} {a : Int} {i : Nat} (h : i < C) : (cellsM C a)[i]? = some (ffb C a (i : Int)) := by
  unfold cellsM ffb
  split
  · rw [List.getElem?_reverse (by simpa using h)]
    simp only [List.length_map, List.length_range, List.getElem?_map]
    rw [List.getElem?_range (by omega)]
    simp only [Option.map_some, Option.some.injEq]
    omega
  · simp [h]
theorem cells_len (C : Nat) (a : Int) : (cellsM C a).length = C := by unfold cellsM; split <;> simp
theorem ffb_ffb {C : Nat} {a c : Int} : ffb C a (ffb C a c) = c := by
  unfold ffb
  split <;> omega
theorem lawPairs_mem {C : Nat} {p q : T3} (x : Pr) : x ∈ lawPairs C p q ↔ x ∈ pairsM C p q := by
  unfold lawPairs
  rw [List.mem_map]
  constructor
  · rintro ⟨⟨u, v⟩, hz, rfl⟩
    obtain ⟨i, hi, e⟩ := List.getElem_of_mem hz
    have hi' : i < C := by rw [List.length_zip, cells_len, cells_len] at hi; omega
    rw [List.getElem_zip] at e
    have e1 : (cellsM C p.2.2)[i]? = some u := by rw [List.getElem?_eq_getElem (by rw [cells_len]; exact hi')]; exact congrArg some (Prod.mk.inj e).1
    have e2 : (cellsM C q.2.2)[i]? = some v := by rw [List.getElem?_eq_getElem (by rw [cells_len]; exact hi')]; exact congrArg some (Prod.mk.inj e).2
    rw [cells_get hi'] at e1 e2
    have e1 := Option.some.inj e1
    have e2 := Option.some.inj e2
    have hu := ffb_in (C := C) (a := p.2.2) (c := (i : Int)) (by omega) (by omega)
    refine List.mem_map.mpr ⟨u.toNat, List.mem_range.mpr (by omega), ?_⟩
    rw [Int.toNat_of_nonneg (by omega), ← e1, ffb_ffb, e2]
  · intro h
    obtain ⟨c, hc, rfl⟩ := List.mem_map.mp h
    have hc := List.mem_range.mp hc
    have hu := ffb_in (C := C) (a := p.2.2) (c := (c : Int)) (by omega) (by omega)
    refine ⟨((c : Int), ffb C q.2.2 (ffb C p.2.2 (c : Int))), ?_, rfl⟩
    have hi : (ffb C p.2.2 (c : Int)).toNat < C := by omega
    refine List.mem_iff_getElem?.mpr ⟨(ffb C p.2.2 (c : Int)).toNat, ?_⟩
    rw [List.getElem?_zip_eq_some]
    refine ⟨?_, ?_⟩
    · rw [cells_get hi, Int.toNat_of_nonneg (by omega), ffb_ffb]
    · rw [cells_get hi, Int.toNat_of_nonneg (by omega)]
theorem lawPairs_disj {C : Nat} {p q : T3} (h : p.1 ≠ q.1) : Disj (lawPairs C p q) := by
  unfold Disj lawPairs
  rw [List.map_map, List.map_map]
  have nd : ∀ a : Int, (cellsM C a).Nodup := fun a => by
    unfold cellsM
    split
    · rw [(List.reverse_perm _).nodup_iff]; exact nodup_map_on List.nodup_range (fun a _ b _ e => by exact Int.ofNat.inj e)
    · exact nodup_map_on List.nodup_range (fun a _ b _ e => by exact Int.ofNat.inj e)
  have hz1 : ((cellsM C p.2.2).zip (cellsM C q.2.2)).map (·.1) = cellsM C p.2.2 := List.map_fst_zip (by rw [cells_len, cells_len]; exact Nat.le_refl _)
  have hz2 : ((cellsM C p.2.2).zip (cellsM C q.2.2)).map (·.2) = cellsM C q.2.2 := List.map_snd_zip (by rw [cells_len, cells_len]; exact Nat.le_refl _)
  refine List.nodup_append.mpr ⟨?_, ?_, fun x hx y hy e => ?_⟩
  · have : (((cellsM C p.2.2).zip (cellsM C q.2.2)).map ((fun x => x.1) ∘ fun z : Int × Int => (((p.1, 1 - p.2.1, z.1), (q.1, q.2.1, z.2)) : Pr))) = (((cellsM C p.2.2).zip (cellsM C q.2.2)).map (·.1)).map fun u => ((p.1, 1 - p.2.1, u) : T3) := by rw [List.map_map]; rfl
    rw [this, hz1]
    exact nodup_map_on (nd _) fun a _ b _ e => by simpa using e
  · have : (((cellsM C p.2.2).zip (cellsM C q.2.2)).map ((fun x => x.2) ∘ fun z : Int × Int => (((p.1, 1 - p.2.1, z.1), (q.1, q.2.1, z.2)) : Pr))) = (((cellsM C p.2.2).zip (cellsM C q.2.2)).map (·.2)).map fun u => ((q.1, q.2.1, u) : T3) := by rw [List.map_map]; rfl
    rw [this, hz2]
    exact nodup_map_on (nd _) fun a _ b _ e => by simpa using e
  · obtain ⟨a, _, rfl⟩ := List.mem_map.mp hx
    obtain ⟨b, _, rfl⟩ := List.mem_map.mp hy
    exact h (congrArg (·.1) e)
theorem law_part {C : Nat} {p q : T3} (h : p.1 ≠ q.1) (x : T3) : overM (lawPairs C p q) x = partM (pairsM C p q) x := by
  rw [overM_eq]
  have key : ∀ y, partM (lawPairs C p q) x = some y ↔ partM (pairsM C p q) x = some y := fun y => by
    rw [part_iff (lawPairs_disj h), part_iff (pairsM_disj h), lawPairs_mem, lawPairs_mem]
  cases e : partM (pairsM C p q) x with
  | some y => exact (key y).mpr e
  | none =>
    cases e2 : partM (lawPairs C p q) x with
    | none => rfl
    | some y => rw [(key y).mp e2] at e; cases e
/-! ### states as keys -/
def k3 (p : T3) : NestedKey := .tup [.num p.1, .num p.2.1, .num p.2.2]
theorem nkeys_map (s : Stand) : nkeys (s.map e3) = some (s.map k3) := by
  induction s with
  | nil => rfl
  | cons p s ih => rw [List.map_cons, nkeys, nkey_e3, ih]; rfl
theorem nkey_st (s : Stand) : nkey (eSt s) = some (.tup (s.map k3)) := by
  unfold eSt
  rw [nkey, nkeys_map]
theorem nkey_sta (z : State) : nkey (eSta z) = some (.tup [.tup (z.1.map k3), k3 z.2]) := by
  unfold eSta
  rw [nkey, nkeys, nkey_st, nkeys, nkey_e3, nkeys]; rfl
theorem k3_inj {a b : T3} (h : k3 a = k3 b) : a = b := (nkey_e3_inj a b).mp (congrArg some h)
theorem k3_map_inj : ∀ {s t : Stand}, s.map k3 = t.map k3 → s = t
  | [], [], _ => rfl
  | [], _ :: _, h => by simp at h
  | _ :: _, [], h => by simp at h
  | p :: s, q :: t, h => by
    rw [List.map_cons, List.map_cons] at h
    have h1 := (List.cons.inj h).1
    have h2 := (List.cons.inj h).2
    rw [k3_inj h1, k3_map_inj h2]
theorem kencS : KEnc eSta := ⟨fun a b => by
  rw [nkey_sta, nkey_sta]
  constructor
  · intro h
    simp only [Option.some.injEq, NestedKey.tup.injEq, List.cons.injEq, and_true] at h
    obtain ⟨h1, h2⟩ := h
    obtain ⟨a1, a2⟩ := a
    obtain ⟨b1, b2⟩ := b
    simp only at h1 h2
    rw [k3_map_inj h1, k3_inj h2]
  · rintro rfl; rfl⟩
theorem depth_st : ∀ s : Stand, NestedKey.depthAll (s.map k3) ≤ 1
  | [] => (show (0 : Nat) ≤ 1 by decide)
  | p :: s => by
    have := depth_st s
    have e : NestedKey.depthAll (k3 p :: s.map k3) = max (NestedKey.depth (k3 p)) (NestedKey.depthAll (s.map k3)) := by rw [NestedKey.depthAll]
    rw [List.map_cons, e]
    have e2 : NestedKey.depth (k3 p) = 1 := rfl
    omega
theorem isKey_sta (z : State) : isKey (eSta z) := ⟨_, _, rfl, nkey_sta z, by
  have := depth_st z.1
  have e : NestedKey.depth (.tup [.tup (z.1.map k3), k3 z.2]) = max (NestedKey.depthAll (z.1.map k3) + 1) (max 1 0) + 1 := by
    rw [NestedKey.depth, NestedKey.depthAll, NestedKey.depth, NestedKey.depthAll, NestedKey.depthAll]; rfl
  rw [e]
  omega⟩
end BB
set_option maxRecDepth 100000
set_option maxHeartbeats 1000000
namespace BB
open PySem PySem.Spec PyProof.Rows L2
local macro_rules | `(tactic| walk_at "d") => `(tactic| simp only [ap_var, ap_c, ap_op, ap_b, ap_chain, ap_isN, ap_notN, ap_not, ap_and, ap_or, ap_notV, ap_andV, ap_orV, ap_if, ap_nil, ap_cons, ap_tup, ap_lst, ap_newL, ap_call, ap_bt, ap_bm, ap_sl, ap_no, ap_some, ap_rev, ap_frz, ap_get2, ap_oneT, ap_newT, ap_newS, ap_dictNew, ap_isi, ap_gset, ap_gend, ap_gmore, ap_gtup, ap_gtup3, ap_gsub, ap_next, ap_seq, ap_drop, ap_ret, ap_retN, ap_brk, ap_cont, ap_ifS, ap_asg, ap_par, ap_par3, ap_aug, ap_onx, ap_ort, ap_it, ap_enum, ap_items, ap_rg1, ap_rg2, ap_zip, ap_eq, ap_ne, ap_i2, ap_arI, ap_addI, ap_addT, ap_addL, ap_ixT, ap_ixL, ap_ix3, ap_wlen, ap_wtup, ap_btN, ap_isiA, ap_lstRg, ap_ixMk, ap_min2, ap_max2, ap_ixDr, ap_gtupDr2, ap_gtupE, ex_at0, ex_at1, ex_at2, ex_bl, ex_int, ex_sli, ex_som, ex_ptr, ex_l1i, ex_l1l, al_l1i, ex_one,
  List.getElem?_cons_zero, List.getElem?_cons_succ, List.set_cons_zero, List.set_cons_succ, List.length_cons, List.length_nil, deq_int, deq_str, deq_e3, vw_e3, vw_i, vw_t, vw_l, vw_s, vw_n, vw_b, true_and, and_true, sh_i64, sh_n64, List.nil_append, List.cons_append, isN_n, isN_i, isN_t, isN_l, isN_b, isN_p, isNon_e3, Bool.not_false, Bool.not_true, if_true, if_false, Bool.false_eq_true, decide_eq_true_eq, ite_true, ite_false, Bool.not_eq_true', decide_eq_false_iff_not, vw_sh, vw_st, ap_ixSh, ap_ixD, ap_ixSt, sh_t3, ap_gtupD, vw_eD, wipeD, reduceIte, Bool.true_eq_false])
theorem partM_mem : ∀ {ps : List Pr} {x t : T3}, partM ps x = some t → ∃ p ∈ ps, (p.1 = x ∧ p.2 = t) ∨ (p.2 = x ∧ p.1 = t)
  | [], _, _, h => nomatch h
  | (a, b) :: r, x, t, h => by
    rw [show partM ((a, b) :: r) x = (if x = a then some b else if x = b then some a else partM r x) from rfl] at h
    by_cases h1 : x = a
    · rw [if_pos h1] at h
      exact ⟨(a, b), List.mem_cons_self, .inl ⟨h1.symm, Option.some.inj h⟩⟩
    · rw [if_neg h1] at h
      by_cases h2 : x = b
      · rw [if_pos h2] at h
        exact ⟨(a, b), List.mem_cons_self, .inr ⟨h2.symm, Option.some.inj h⟩⟩
      · rw [if_neg h2] at h
        obtain ⟨p, hp, z⟩ := partM_mem h
        exact ⟨p, List.mem_cons_of_mem _ hp, z⟩
section
variable {st r : List Cell} {c c' x y : Cell}
theorem m_get0 : (st ++ c :: r)[st.length]? = some c := by rw [List.getElem?_append_right (Nat.le_refl _)]; simp
theorem m_set0 : (st ++ c :: r).set st.length c' = st ++ c' :: r := by rw [List.set_append_right _ _ (Nat.le_refl _)]; simp
theorem m_len : (st ++ c :: r).length = st.length + 1 + r.length := by simp; omega
theorem m_get1 : (st ++ c :: (r ++ [x]))[st.length + 1 + r.length]? = some x := by
  rw [List.getElem?_append_right (by omega), show st.length + 1 + r.length - st.length = r.length + 1 by omega, List.getElem?_cons_succ]
  simp
theorem m_set1 : (st ++ c :: (r ++ [x])).set (st.length + 1 + r.length) y = st ++ c :: (r ++ [y]) := by
  rw [List.set_append_right _ _ (by omega), show st.length + 1 + r.length - st.length = r.length + 1 by omega, List.set_cons_succ, List.set_append_right _ _ (Nat.le_refl _)]
  simp
end
section
variable {κ β : Type} [DecidableEq κ] {e : κ → D} {v : β → D} {st : List Cell} {Z : D → Prop} {P : List Cell → Prop} {m : List (κ × β)}
theorem in_cellG (he : KEnc e) (hk : ∀ k, isKey (e k)) {neg : Bool} {t : κ} {j : Nat} (hj : st[j]? = some (.dct (kD e m) (vD v m))) (h : Z (.bl ((aget m t).isSome != neg))) : wIn neg (e t) (.ptr j) st Z := by
  unfold wIn
  have e1 : vw st (.ptr j) = .ptr j := by simp [vw, hj]
  rw [e1]
  exact .inl ⟨_, _, dv_cell hj, hk t, by rw [look_kv he]; simpa using h⟩
theorem set_cellG (he : KEnc e) (hk : ∀ k, isKey (e k)) {t : κ} {y : β} {j : Nat} (hj : st[j]? = some (.dct (kD e m) (vD v m))) (hl : m.length < sizeLine) (h : P (st.set j (.dct (kD e (aput m t y)) (vD v (aput m t y))))) : wSetA (.ptr j) (e t) (v y) st P := by
  unfold wSetA
  simp only [hj]
  refine ⟨_, _, _, rfl, hj, hk t, by simpa [kD] using hl, ?_⟩
  rw [put_kv he]
  exact h
end
def eSe (m : SeenM) : Cell := .dct (kD eSta m) (vD .bl m)
def eNL (n : Node) : D := .tup [.lst (n.1.map eD), eSt n.2.1, e3 n.2.2]
/-! ### few states -/
def listsOf {α : Type} (l : List α) : Nat → List (List α)
  | 0 => [[]]
  | n + 1 => (listsOf l n).flatMap fun t => l.map fun a => a :: t
theorem mem_listsOf {α : Type} {l : List α} : ∀ {n : Nat} {s : List α}, s.length = n → (∀ a ∈ s, a ∈ l) → s ∈ listsOf l n
  | 0, s, h, _ => by rw [List.eq_nil_of_length_eq_zero h]; exact List.mem_singleton.mpr rfl
  | n + 1, [], h, _ => by simp at h
  | n + 1, a :: s, h, hs => by
    unfold listsOf
    rw [List.mem_flatMap]
    exact ⟨s, mem_listsOf (by simpa using h) fun b hb => hs b (List.mem_cons_of_mem _ hb), List.mem_map_of_mem (hs a List.mem_cons_self)⟩
theorem listsOf_len {α : Type} (l : List α) : ∀ n : Nat, (listsOf l n).length = l.length ^ n
  | 0 => rfl
  | n + 1 => by
    unfold listsOf
    rw [List.length_flatMap]
    have : ((listsOf l n).map fun t => (l.map fun a => a :: t).length) = (listsOf l n).map fun _ => l.length := List.map_congr_left fun t _ => by simp
    rw [this]
    have h : ∀ (k : List (List α)), (k.map fun _ => l.length).sum = k.length * l.length := by
      intro k
      induction k with
      | nil => simp
      | cons a k ih => rw [List.map_cons, List.sum_cons, ih, List.length_cons, Nat.add_mul, Nat.one_mul, Nat.add_comm]
    rw [h, listsOf_len l n, Nat.pow_succ]
def allSt (L : Nat) : List State := (listsOf (box 3 2 2) L).flatMap fun s => (box 3 2 3).map fun x => (s, x)
theorem allSt_len {L : Nat} (h : L ≤ 3) : (allSt L).length ≤ 40000 := by
  unfold allSt
  rw [List.length_flatMap]
  have e : ((listsOf (box 3 2 2) L).map fun s => ((box 3 2 3).map fun x => ((s, x) : State)).length) = (listsOf (box 3 2 2) L).map fun _ => 18 := List.map_congr_left fun t _ => by rw [List.length_map]; rfl
  rw [e]
  have hs : ∀ (k : List Stand), (k.map fun _ => 18).sum = k.length * 18 := by
    intro k
    induction k with
    | nil => simp
    | cons a k ih => rw [List.map_cons, List.sum_cons, ih, List.length_cons]; omega
  rw [hs, listsOf_len, show (box 3 2 2).length = 12 from rfl]
  have : (12 : Nat) ^ L ≤ 12 ^ 3 := Nat.pow_le_pow_right (by decide) h
  omega
/-- a state of a small book -/
structure Good (L C : Nat) (z : State) : Prop where
  st : OkSt L z.1
  bx : z.2 ∈ box L 2 C
theorem box_spec {a b c : Nat} {p : T3} (h : p ∈ box a b c) : 0 ≤ p.1 ∧ p.1 < a ∧ 0 ≤ p.2.1 ∧ p.2.1 < b ∧ 0 ≤ p.2.2 ∧ p.2.2 < c := by
  unfold box at h
  simp only [List.mem_flatMap, List.mem_range, List.mem_map] at h
  obtain ⟨i, hi, j, hj, k, hk, rfl⟩ := h
  simp only
  omega
theorem Good.mem {L C : Nat} {z : State} (h : Good L C z) (hL : L ≤ 3) (hC : C ≤ 3) : z ∈ allSt L := by
  unfold allSt
  rw [List.mem_flatMap]
  refine ⟨z.1, mem_listsOf h.st.len fun p hp => ?_, List.mem_map.mpr ⟨z.2, ?_, rfl⟩⟩
  · have l1 := h.st.leaf hp
    have o1 := h.st.ov p hp
    have a1 := h.st.ab p hp
    exact mem_box (by omega) (by omega) (by omega) (by omega) (by omega) (by omega)
  · have := box_spec h.bx
    exact mem_box (by omega) (by omega) (by omega) (by omega) (by omega) (by omega)
structure SeenOk (L C : Nat) (m : SeenM) : Prop where
  nd : (m.map (·.1)).Nodup
  gd : ∀ z ∈ m.map (·.1), Good L C z
theorem SeenOk.small {L C : Nat} {m : SeenM} (h : SeenOk L C m) (hL : L ≤ 3) (hC : C ≤ 3) : m.length ≤ 40000 := by
  have h1 := nodup_sub_len _ (allSt L) h.nd fun z hz => (h.gd z hz).mem hL hC
  rw [List.length_map] at h1
  exact Nat.le_trans h1 (allSt_len hL)
theorem SeenOk.put {L C : Nat} {m : SeenM} (h : SeenOk L C m) {z : State} (hz : Good L C z) (b : Bool) : SeenOk L C (aput m z b) := ⟨aput_nodup m z b h.nd, fun k hk => by
  rcases (aput_keys' m z b k).mp hk with q | q
  · exact h.gd k q
  · rw [q]; exact hz⟩
structure NodesOk (L C : Nat) (g : T3) (k : Nat) (m : SeenM) (ns : List Node) : Prop where
  gd : ∀ n ∈ ns, Good L C (n.2.1, n.2.2)
  ng : ∀ n ∈ ns, n.2.2 ≠ g
  sn : ∀ n ∈ ns, (aget m (n.2.1, n.2.2)).isSome = true
  ln : ∀ n ∈ ns, n.1.length = k
  sz : ns.length ≤ m.length
theorem aput_len {m : SeenM} {z : State} {b : Bool} (h : aget m z = none) : (aput m z b).length = m.length + 1 := by
  have := congrArg List.length (aput_keys m z b h)
  simpa using this
theorem some_put {m : SeenM} {z y : State} {b : Bool} (h : (aget m y).isSome = true) : (aget (aput m z b) y).isSome = true := by
  rw [aget_put]
  split
  · rfl
  · exact h
/-- one state looked at -/
theorem vis_ok {L C : Nat} {g : T3} {done : List Deed} {d : Deed} {q q' : SeenM × List Node} {z : State} (h1 : SeenOk L C q.1) (h2 : NodesOk L C g (done.length + 1) q.1 q.2) (hz : Good L C z) (h : visS g done d q z = .ok q') :
    SeenOk L C q'.1 ∧ NodesOk L C g (done.length + 1) q'.1 q'.2 ∧ ∀ y, (aget q.1 y).isSome = true → (aget q'.1 y).isSome = true := by
  unfold visS at h
  by_cases hg : z.2 = g
  · rw [if_pos hg] at h; cases h
  · rw [if_neg hg] at h
    by_cases hs : (aget q.1 z).isSome = true
    · rw [if_pos hs] at h
      cases h
      exact ⟨h1, h2, fun _ z => z⟩
    · rw [if_neg hs] at h
      cases h
      have hn : aget q.1 z = none := by simpa using hs
      refine ⟨h1.put hz true, ⟨fun n hn' => ?_, fun n hn' => ?_, fun n hn' => ?_, fun n hn' => ?_, ?_⟩, fun y hy => some_put hy⟩
      · rcases List.mem_append.mp hn' with a | a
        · exact h2.gd n a
        · have : n = (done ++ [d], z.1, z.2) := by simpa using a
          rw [this]; exact hz
      · rcases List.mem_append.mp hn' with a | a
        · exact h2.ng n a
        · have : n = (done ++ [d], z.1, z.2) := by simpa using a
          rw [this]; exact hg
      · rcases List.mem_append.mp hn' with a | a
        · exact some_put (h2.sn n a)
        · have : n = (done ++ [d], z.1, z.2) := by simpa using a
          rw [this]
          show (aget (aput q.1 z true) z).isSome = true
          rw [aget_put, if_pos rfl]; rfl
      · rcases List.mem_append.mp hn' with a | a
        · exact h2.ln n a
        · have : n = (done ++ [d], z.1, z.2) := by simpa using a
          rw [this]; simp
      · rw [aput_len hn, List.length_append]
        have := h2.sz
        simp only [List.length_singleton]
        omega
theorem pairs_boxL {C L : Nat} {s : Stand} (h : OkSt L s) {p q : T3} (hp : p ∈ s) (hq : q ∈ s) {x : Pr} (hx : x ∈ pairsM C p q) : x.1 ∈ box L 2 C ∧ x.2 ∈ box L 2 C := by
  obtain ⟨c, hc, rfl⟩ := mem_pairsM hx
  have l1 := h.leaf hp
  have l2 := h.leaf hq
  have o1 := h.ov p hp
  have o2 := h.ov q hq
  have f1 := ffb_in (C := C) (a := p.2.2) (c := (c : Int)) (by omega) (by omega)
  have f2 := ffb_in (C := C) (a := q.2.2) f1.1 f1.2
  constructor
  · refine mem_box ?_ ?_ ?_ ?_ ?_ ?_ <;> simp only <;> omega
  · refine mem_box ?_ ?_ ?_ ?_ ?_ ?_ <;> simp only <;> omega
/-- where one comes to: o -/
def comeM (C : Nat) (s : Stand) (x : T3) (d : Deed) : Option T3 := match isPress d with
  | none => some x
  | some k => partM (pairsAt C s k) x
theorem nextL_eq (C : Nat) (s : Stand) (x : T3) (d : Deed) : nextL C s x d = (comeM C s x d).map fun t => (movedM s d, t) := by
  unfold nextL comeM
  cases q : isPress d with
  | none => rfl
  | some k => rw [(movedM_press (s := s) q).1]
theorem next_good {L C : Nat} {s : Stand} {x : T3} {d : Deed} {z : State} (h : Good L C (s, x)) (hd : okDeed L d) (e : nextL C s x d = some z) : Good L C z := by
  unfold nextL at e
  cases q : isPress d with
  | none =>
    rw [q] at e
    cases e
    exact ⟨h.st.moved d, h.bx⟩
  | some k =>
    obtain ⟨rfl⟩ : d = .press k := by cases d <;> simp [isPress] at q; rw [q]
    rw [q] at e
    have hk : k + 1 < s.length := by rw [h.st.len]; exact hd
    simp only [pairsAt_eq hk] at e
    cases q2 : partM (pairsM C s[k] s[k + 1]) x with
    | none => rw [q2] at e; cases e
    | some t =>
      rw [q2] at e
      cases e
      obtain ⟨p, hp, hz⟩ := partM_mem q2
      have := pairs_boxL h.st (List.getElem_mem _) (List.getElem_mem _) hp
      refine ⟨h.st, ?_⟩
      rcases hz with ⟨_, rfl⟩ | ⟨_, rfl⟩
      · exact this.2
      · exact this.1
theorem deeds_ok {L : Nat} {d : Deed} (h : d ∈ deedsM L) : okDeed L d := by
  unfold deedsM at h
  simp only [List.mem_append, List.mem_map, List.mem_range] at h
  rcases h with ((⟨i, hi, rfl⟩ | ⟨i, hi, rfl⟩) | ⟨i, hi, rfl⟩) | ⟨i, hi, rfl⟩
  · exact hi
  · exact hi
  · show i + 1 < L; omega
  · show i + 1 < L; omega
end BB
set_option maxRecDepth 100000
set_option maxHeartbeats 1000000
namespace BB
open PySem PySem.Spec PyProof.Rows L2
local macro_rules | `(tactic| walk_at "d") => `(tactic| simp only [ap_var, ap_c, ap_op, ap_b, ap_chain, ap_isN, ap_notN, ap_not, ap_and, ap_or, ap_notV, ap_andV, ap_orV, ap_if, ap_nil, ap_cons, ap_tup, ap_lst, ap_newL, ap_call, ap_bt, ap_bm, ap_sl, ap_no, ap_some, ap_rev, ap_frz, ap_get2, ap_oneT, ap_newT, ap_newS, ap_dictNew, ap_isi, ap_gset, ap_gend, ap_gmore, ap_gtup, ap_gtup3, ap_gsub, ap_next, ap_seq, ap_drop, ap_ret, ap_retN, ap_brk, ap_cont, ap_ifS, ap_asg, ap_par, ap_par3, ap_aug, ap_onx, ap_ort, ap_it, ap_enum, ap_items, ap_rg1, ap_rg2, ap_zip, ap_eq, ap_ne, ap_i2, ap_arI, ap_addI, ap_addT, ap_addL, ap_ixT, ap_ixL, ap_ix3, ap_wlen, ap_wtup, ap_btN, ap_isiA, ap_lstRg, ap_ixMk, ap_min2, ap_max2, ap_ixDr, ap_gtupDr2, ap_gtupE, ex_at0, ex_at1, ex_at2, ex_bl, ex_int, ex_sli, ex_som, ex_ptr, ex_l1i, ex_l1l, al_l1i, ex_one,
  List.getElem?_cons_zero, List.getElem?_cons_succ, List.set_cons_zero, List.set_cons_succ, List.length_cons, List.length_nil, deq_int, deq_str, deq_e3, vw_e3, vw_i, vw_t, vw_l, vw_s, vw_n, vw_b, true_and, and_true, sh_i64, sh_n64, List.nil_append, List.cons_append, isN_n, isN_i, isN_t, isN_l, isN_b, isN_p, isNon_e3, Bool.not_false, Bool.not_true, if_true, if_false, Bool.false_eq_true, decide_eq_true_eq, ite_true, ite_false, Bool.not_eq_true', decide_eq_false_iff_not, vw_sh, vw_st, ap_ixSh, ap_ixD, ap_ixSt, sh_t3, ap_gtupD, vw_eD, wipeD, reduceIte, Bool.true_eq_false])
theorem foldM_snoc {α β ε : Type} (f : β → α → Except ε β) (l : List α) (a : α) (q : β) : (l ++ [a]).foldlM f q = (l.foldlM f q >>= fun q' => f q' a) := by
  rw [List.foldlM_append]
  congr 1
  funext q'
  simp
theorem foldM_err {α β ε : Type} {f : β → α → Except ε β} {l r : List α} {a : α} {q q' : β} {e : ε} (h1 : l.foldlM f q = .ok q') (h2 : f q' a = .error e) : (l ++ a :: r).foldlM f q = .error e := by
  rw [List.foldlM_append, h1]
  show (a :: r).foldlM f q' = _
  rw [List.foldlM_cons, h2]; rfl
theorem loopX_snoc {f : Node → SeenM × List Node → Deed → Except (List Deed) (SeenM × List Node)} {L : Nat} : ∀ (i : Nat) (q : SeenM × List Node), loopX f L (i + 1) q = (loopX f L i q >>= turnX f L)
  | 0, q => by
    show turnX f L q >>= loopX f L 0 = turnX f L q
    cases turnX f L q <;> rfl
  | i + 1, q => by
    show (turnX f L q >>= loopX f L (i + 1)) = ((turnX f L q >>= loopX f L i) >>= turnX f L)
    cases h : turnX f L q with
    | error e => rfl
    | ok q' => exact loopX_snoc i q'
theorem loopX_err {f : Node → SeenM × List Node → Deed → Except (List Deed) (SeenM × List Node)} {L : Nat} {r : List Deed} : ∀ (n i : Nat) (q q' : SeenM × List Node), loopX f L i q = .ok q' → turnX f L q' = .error r → i < n → loopX f L n q = .error r
  | n + 1, 0, q, q', h1, h2, _ => by
    cases h1
    show (turnX f L q >>= loopX f L n) = _
    rw [h2]; rfl
  | n + 1, i + 1, q, q', h1, h2, h3 => by
    show (turnX f L q >>= loopX f L n) = _
    have h1 : (turnX f L q >>= loopX f L i) = .ok q' := h1
    cases h : turnX f L q with
    | error e => rw [h] at h1; cases h1
    | ok q1 =>
      rw [h] at h1
      exact loopX_err n i q1 q' h1 h2 (by omega)
theorem eDs_bel (n : Nat) (o : Option (List Deed)) : bel n (eDs o) := by
  cases o with
  | none => exact bel_non _
  | some l => exact bel_mapL fun _ _ => bel_eD _ _
theorem sh_sta (z : State) : sh 64 (eSta z) := (sh_tup 63 _).mpr fun d hd => by
  simp only [List.mem_cons, List.not_mem_nil, or_false] at hd
  rcases hd with rfl | rfl
  · exact sh_map fun p _ => sh_e3 p 61
  · exact sh_e3 _ 62
theorem sh_eO (o : Option T3) (n : Nat) : sh (n + 1) (eO o) := by
  cases o with
  | none => exact sh_non _
  | some t => exact sh_e3 _ _
theorem sh_lo (o : Option T3) : sh 64 (.lst [eO o]) := (sh_lst 63 _).mpr fun d hd => by
  have : d = eO o := by simpa using hd
  rw [this]; exact sh_eO o 62
theorem deq_eO (a b : Option T3) : deq (eO a) (eO b) = decide (a = b) := by
  cases a with
  | none => cases b with
    | none => rfl
    | some b => rfl
  | some a => cases b with
    | none => rfl
    | some b => show deq (e3 a) (e3 b) = _; rw [deq_e3]; simp
theorem deq_lo (a b : Option T3) : deq (.lst [eO a]) (.lst [eO b]) = decide (a = b) := by
  rw [deq_consL, deq_eO, show deq (.lst []) (.lst []) = true from rfl, Bool.and_true]
theorem ap_gtupN {r : DGs} {n : Node} {ρ : DS} {R : DS → Prop} : gTupD 3 r (eNL n) ρ R = r [.lst (n.1.map eD), eSt n.2.1, e3 n.2.2] ρ R := (ap_gtup 3 r _).trans (propext ⟨fun h => h.2, fun h => ⟨rfl, h⟩⟩)
/-- one deed of the judge, by where it comes to -/
theorem stepL_come (C : Nat) (g : T3) (n : Node) (q : SeenM × List Node) (d : Deed) : stepL C g n q d = match comeM C n.2.1 n.2.2 d with
  | none => .ok q
  | some t => visS g n.1 d q (movedM n.2.1 d, t) := by
  unfold stepL
  rw [nextL_eq]
  cases comeM C n.2.1 n.2.2 d <;> rfl
theorem sp_law_brought : ∀ (ds : List D) st' Q, ds.length = 5 → WfS st' → F_law_brought ds st' Q → b_law_brought (endsOf st'.length Q) ⟨startD 15 ds, st'⟩ := by
  rintro ds st Q hl wf ⟨L, C, s, x, g, n, rfl, S, hx, hg, hne, hn, h⟩
  show b_law_brought _ ⟨[some (eSh L C), some (eSt s), some (e3 x), some (e3 g), some (.int (n : Int)), none, none, none, none, none, none, none, none, none, none], st⟩
  have sz : 50000 < sizeLine := by decide
  have hS0 : SeenOk L C (startX s x).1 := ⟨by simp [startX], fun z hz => by simp [startX] at hz; rw [hz]; exact ⟨S.st, hx⟩⟩
  have hN0 : NodesOk L C g 0 (startX s x).1 (startX s x).2 := ⟨fun n hn => by simp [startX] at hn; rw [hn]; exact ⟨S.st, hx⟩, fun n hn => by simp [startX] at hn; rw [hn]; exact hne, fun n hn => by simp [startX] at hn; rw [hn]; simp [startX, aget], fun n hn => by simp [startX] at hn; rw [hn]; rfl, by simp [startX]⟩
  unfold b_law_brought
  walk_at "d"
  refine ⟨by decide, by decide, by decide, by decide, isKey_sta (s, x), _, _, rfl, ?_⟩
  refine dFor_ints n (fun i ρ' => ∃ (q : SeenM × List Node) (more : List Cell) (x7 x8 x9 x10 x11 x12 x13 x14 : Option D), loopX (stepL C g) L i (startX s x) = .ok q ∧ SeenOk L C q.1 ∧ NodesOk L C g i q.1 q.2 ∧
    ρ' = ⟨[some (eSh L C), some (eSt s), some (e3 x), some (e3 g), some (.int (n : Int)), some (.lst (q.2.map eNL)), some (.ptr st.length), x7, x8, x9, x10, x11, x12, x13, x14], st ++ eSe q.1 :: more⟩) (fun W hW => ?_) ⟨startX s x, [], _, _, _, _, _, _, _, _, rfl, hS0, hN0, rfl⟩ ?_ ?_
  · walk_at "d"
    refine ⟨by omega, by omega, ?_⟩
    rw [Int.toNat_natCast]
    exact hW
  · rintro i ρ' hi ⟨q0, more, x7, x8, x9, x10, x11, x12, x13, x14, hlp, hS, hN, rfl⟩
    walk_at "d"
    refine ⟨by decide, ?_⟩
    have em : st ++ eSe q0.1 :: more ++ [Cell.lst []] = st ++ eSe q0.1 :: (more ++ [.lst (([] : List Node).map eNL)]) := by simp
    simp only [m_len, em]
    -- what a found list is worth
    have found : ∀ (r : List Deed) (nd : List Node) (node : Node) (rest : List Node) (q1 : SeenM × List Node), q0.2 = nd ++ node :: rest → nd.foldlM (nodeX (stepL C g) L) (q0.1, []) = .ok q1 → ∀ (d2 : List Deed) (d : Deed) (rest2 : List Deed) (q2 : SeenM × List Node), deedsM L = d2 ++ d :: rest2 → d2.foldlM (stepL C g node) q1 = .ok q2 → stepL C g node q2 d = .error r →
        ∀ more, retOk st.length Q (.lst (r.map eD)) (st ++ more) := by
      intro r nd node rest q1 e1 h1 d2 d rest2 q2 e2 h2 h3 more
      have hnode : nodeX (stepL C g) L q1 node = .error r := by
        unfold nodeX
        rw [e2]
        exact foldM_err h2 h3
      have hturn : turnX (stepL C g) L q0 = .error r := by
        unfold turnX
        rw [e1]
        exact foldM_err h1 hnode
      have hloop := loopX_err n i _ _ hlp hturn hi
      unfold broughtL at h
      rw [hloop] at h
      exact ret_app wf (eDs_bel _ (some r)) h
    refine dFor_pre (e := eNL) (l := q0.2) (fun nd ρ' => ∃ (q : SeenM × List Node) (y9 y10 y11 y12 y13 y14 : Option D), nd.foldlM (nodeX (stepL C g) L) (q0.1, []) = .ok q ∧ SeenOk L C q.1 ∧ NodesOk L C g (i + 1) q.1 q.2 ∧
      ρ' = ⟨[some (eSh L C), some (eSt s), some (e3 x), some (e3 g), some (.int (n : Int)), some (.lst (q0.2.map eNL)), some (.ptr st.length), some (.int (i : Int)), some (.ptr (st.length + 1 + more.length)), y9, y10, y11, y12, y13, y14], st ++ eSe q.1 :: (more ++ [.lst (q.2.map eNL)])⟩) (fun W hW => ?_) ⟨(q0.1, []), _, _, _, _, _, _, rfl, hS, ⟨fun _ h => by simp at h, fun _ h => by simp at h, fun _ h => by simp at h, fun _ h => by simp at h, by simp⟩, rfl⟩ ?_ ?_
    · walk_at "d"
      exact hW
    · rintro nd node rest ρ' er ⟨q1, y9, y10, y11, y12, y13, y14, hf1, hS1, hN1, rfl⟩
      have hmem : node ∈ q0.2 := by rw [er]; simp
      have hgd := hN.gd node hmem
      have hng := hN.ng node hmem
      have hln := hN.ln node hmem
      have found2 := fun r => found r nd node rest q1 er hf1
      obtain ⟨dn, lying, here⟩ := node
      simp only at hgd hng hln
      simp only [ap_gtupN]
      walk_at "d"
      refine dFor_pre (e := eD) (l := deedsM L) (fun d2 ρ' => ∃ (q : SeenM × List Node) (z12 z13 z14 : Option D), d2.foldlM (stepL C g (dn, lying, here)) q1 = .ok q ∧ SeenOk L C q.1 ∧ NodesOk L C g (i + 1) q.1 q.2 ∧
        ρ' = ⟨[some (eSh L C), some (eSt s), some (e3 x), some (e3 g), some (.int (n : Int)), some (.lst (q0.2.map eNL)), some (.ptr st.length), some (.int (i : Int)), some (.ptr (st.length + 1 + more.length)), some (.lst (dn.map eD)), some (eSt lying), some (e3 here), z12, z13, z14], st ++ eSe q.1 :: (more ++ [.lst (q.2.map eNL)])⟩) (fun W hW => ?_) ⟨q1, _, _, _, rfl, hS1, hN1, rfl⟩ ?_ ?_
      · walk_at "d"
        exact ⟨L, C, rfl, S.hL0, by have := S.hL; omega, hW⟩
      · rintro d2 d rest2 ρ' er2 ⟨q2, z12, z13, z14, hf2, hS2, hN2, rfl⟩
        have hd : okDeed L d := deeds_ok (by rw [er2]; simp)
        have hdl : okDeed lying.length d := by rw [hgd.st.len]; exact hd
        have hlz : lying.length ≤ 1000 := by rw [hgd.st.len]; have := S.hL; omega
        have fnd := fun r (hs : stepL C g (dn, lying, here) q2 d = .error r) => found2 r d2 d rest2 q2 er2 hf2 hs
        have hstep := stepL_come C g (dn, lying, here) q2 d
        simp only at hstep
        have hsml := hS2.small S.hL S.hC
        have hnz := hN2.sz
        have hcomeg : ∀ t, comeM C lying here d = some t → Good L C (movedM lying d, t) := fun t e => next_good hgd hd (by rw [nextL_eq, e]; rfl)
        simp only [ap_gset, List.set_cons_succ, List.set_cons_zero, ap_seq, ap_par, ap_cons, ap_nil, ap_call, ap_var, List.getElem?_cons_zero, List.getElem?_cons_succ, ex_som, ap_lst, List.length_cons, List.length_nil, true_and]
        refine ⟨lying, d, rfl, hdl, hlz, by decide, _, _, rfl, ?_⟩
        refine nx_gen (I := fun ρ' => ρ' = ⟨[some (eSh L C), some (eSt s), some (e3 x), some (e3 g), some (.int (n : Int)), some (.lst (q0.2.map eNL)), some (.ptr st.length), some (.int (i : Int)), some (.ptr (st.length + 1 + more.length)), some (.lst (dn.map eD)), some (eSt lying), some (e3 here), some (eD d), some (eSt (movedM lying d)), some (.lst [eO (comeM C lying here d)])], st ++ eSe q2.1 :: (more ++ [.lst (q2.2.map eNL)])⟩) ?_ ?_
        · rintro ρ' rfl
          rw [foldM_snoc, hf2]
          show dSeq _ _ _ _
          walk_at "d"
          have hdn : dn.length ≤ 12 := by omega
          have hbind : ∀ q : SeenM × List Node, stepL C g (dn, lying, here) q2 d = .ok q → (do let q' ← Except.ok q2; stepL C g (dn, lying, here) q' d) = Except.ok q := fun q e => e
          have hN2' : NodesOk L C g (dn.length + 1) q2.1 q2.2 := by rw [hln]; exact hN2
          generalize comeM C lying here d = o at hstep hcomeg ⊢
          cases o with
          | none =>
            simp only at hstep
            refine ⟨by decide, sh_lo none, sh_lo (some g), (if_neg (show ¬ (deq (.lst [eO none]) (.lst [eO (some g)]) = true) by rw [deq_lo]; simp)).mpr ⟨by decide, sh_lo none, sh_lo none, (if_neg (show ¬ (deq (.lst [eO none]) (.lst [eO none]) = false) by rw [deq_lo]; simp)).mpr ?_⟩⟩
            exact ⟨q2, _, _, _, hbind _ hstep, hS2, hN2, rfl⟩
          | some t =>
            simp only at hstep
            by_cases hgt : t = g
            · have hv : visS g dn d q2 (movedM lying d, t) = .error (dn ++ [d]) := if_pos hgt
              have hr := fnd (dn ++ [d]) (hstep.trans hv) (eSe q2.1 :: (more ++ [.lst (q2.2.map eNL)]))
              rw [List.map_append] at hr
              exact ⟨by decide, sh_lo _, sh_lo (some g), (if_pos (show deq (.lst [eO (some t)]) (.lst [eO (some g)]) = true by rw [deq_lo, hgt]; simp)).mpr ⟨by decide, by rw [List.length_map]; omega, hr⟩⟩
            · refine ⟨by decide, sh_lo _, sh_lo (some g), (if_neg (show ¬ (deq (.lst [eO (some t)]) (.lst [eO (some g)]) = true) by rw [deq_lo]; simpa using hgt)).mpr ⟨by decide, sh_lo _, sh_lo none, (if_pos (show deq (.lst [eO (some t)]) (.lst [eO none]) = false by rw [deq_lo]; simp)).mpr ⟨by decide, ?_⟩⟩⟩
              show wIn true (eSta (movedM lying d, t)) _ _ _
              refine in_cellG (v := .bl) kencS isKey_sta m_get0 ⟨_, rfl, ?_⟩
              by_cases hs : (aget q2.1 (movedM lying d, t)).isSome = true
              · have hv : visS g dn d q2 (movedM lying d, t) = .ok q2 := (if_neg hgt).trans (if_pos hs)
                rw [hs]
                refine (if_neg (by decide)).mpr ?_
                exact ⟨q2, _, _, _, hbind _ (hstep.trans hv), hS2, hN2, rfl⟩
              · have hv : visS g dn d q2 (movedM lying d, t) = .ok (aput q2.1 (movedM lying d, t) true, q2.2 ++ [(dn ++ [d], movedM lying d, t)]) := (if_neg hgt).trans (if_neg hs)
                obtain ⟨hS3, hN3, _⟩ := vis_ok hS2 hN2' (hcomeg t rfl) hv
                have hsf : (aget q2.1 (movedM lying d, t)).isSome = false := by simpa using hs
                rw [hsf]
                refine (if_pos (by decide)).mpr ⟨by decide, ?_⟩
                show wSetA _ (eSta (movedM lying d, t)) _ _ _
                refine set_cellG (v := .bl) kencS isKey_sta m_get0 (by omega) ?_
                rw [m_set0]
                refine ⟨⟨_, vw_cell m_get1⟩, by decide, by rw [List.length_map]; omega, by decide, ?_⟩
                refine ⟨_, _, _, rfl, rfl, m_get1, by rw [List.length_map]; omega, ?_⟩
                rw [m_set1]
                have es : q2.2.map eNL ++ [.tup [.lst (dn.map eD ++ [eD d]), eSt (movedM lying d), eO (some t)]] = (q2.2 ++ [(dn ++ [d], movedM lying d, t)]).map eNL := by
                  rw [List.map_append]
                  simp only [eNL, List.map_append, List.map_cons, List.map_nil, eO]
                rw [es]
                rw [hln] at hN3
                exact ⟨_, _, _, _, hbind _ (hstep.trans hv), hS3, hN3, rfl⟩
        · intro M hM
          have hM := hM _ rfl
          unfold comeM at hM
          walk_at "d"
          refine ⟨sh_word d, sh_press, ?_⟩
          cases q : isPress d with
          | none =>
            rw [q] at hM
            refine (if_neg (ne_press d q)).mpr ?_
            exact hM
          | some k =>
            obtain ⟨rfl⟩ : d = .press k := by cases d <;> simp [isPress] at q; rw [q]
            rw [q] at hM
            refine (if_pos rfl).mpr ?_
            have hk : k + 1 < lying.length := hdl
            simp only [show (Deed.press k).num = k from rfl]
            refine ⟨L, C, lying, k, _, _, rfl, List.getElem?_eq_getElem (by omega), List.getElem?_eq_getElem hk, by have := S.hC; omega, _, here, rfl, by decide, ?_⟩
            have hpq : lying[k].1 ≠ lying[k + 1].1 := fun e => by
              have hnd := hgd.st.nd
              have := List.pairwise_iff_getElem.mp hnd k (k + 1) (by simp; omega) (by simpa using hk) (by omega)
              simp only [List.getElem_map] at this
              exact this e
            rw [law_part hpq]
            simp only [pairsAt_eq hk] at hM
            exact hM
      · rintro ρ' ⟨q, z12, z13, z14, hf2, hS2, hN2, rfl⟩
        refine ⟨q, _, _, _, _, _, _, ?_, hS2, hN2, rfl⟩
        rw [foldM_snoc, hf1]
        exact hf2
    · rintro ρ' ⟨q, y9, y10, y11, y12, y13, y14, hf1, hS1, hN1, rfl⟩
      walk_at "d"
      rw [m_get1]
      simp only [m_set1]
      refine ⟨q, _, _, _, _, _, _, _, _, _, ?_, hS1, hN1, rfl⟩
      rw [loopX_snoc, hlp]
      exact hf1
  · rintro ρ' ⟨q, more, x7, x8, x9, x10, x11, x12, x13, x14, hlp, hS, hN, rfl⟩
    walk_at "d"
    unfold broughtL at h
    rw [hlp] at h
    exact ret_app wf (bel_non _) h
end BB
set_option maxRecDepth 100000
set_option maxHeartbeats 1000000
namespace BB
open PySem PySem.Spec PyProof.Rows L2
local macro_rules | `(tactic| walk_at "d") => `(tactic| simp only [ap_var, ap_c, ap_op, ap_b, ap_chain, ap_isN, ap_notN, ap_not, ap_and, ap_or, ap_notV, ap_andV, ap_orV, ap_if, ap_nil, ap_cons, ap_tup, ap_lst, ap_newL, ap_call, ap_bt, ap_bm, ap_sl, ap_no, ap_some, ap_rev, ap_frz, ap_get2, ap_oneT, ap_newT, ap_newS, ap_dictNew, ap_isi, ap_gset, ap_gend, ap_gmore, ap_gtup, ap_gtup3, ap_gsub, ap_next, ap_seq, ap_drop, ap_ret, ap_retN, ap_brk, ap_cont, ap_ifS, ap_asg, ap_par, ap_par3, ap_aug, ap_onx, ap_ort, ap_it, ap_enum, ap_items, ap_rg1, ap_rg2, ap_zip, ap_eq, ap_ne, ap_i2, ap_arI, ap_addI, ap_addT, ap_addL, ap_ixT, ap_ixL, ap_ix3, ap_wlen, ap_wtup, ap_btN, ap_isiA, ap_lstRg, ap_ixMk, ap_min2, ap_max2, ap_ixDr, ap_gtupDr2, ap_gtupE, ex_at0, ex_at1, ex_at2, ex_bl, ex_int, ex_sli, ex_som, ex_ptr, ex_l1i, ex_l1l, al_l1i, ex_one,
  List.getElem?_cons_zero, List.getElem?_cons_succ, List.set_cons_zero, List.set_cons_succ, List.length_cons, List.length_nil, deq_int, deq_str, deq_e3, vw_e3, vw_i, vw_t, vw_l, vw_s, vw_n, vw_b, true_and, and_true, sh_i64, sh_n64, List.nil_append, List.cons_append, isN_n, isN_i, isN_t, isN_l, isN_b, isN_p, isNon_e3, Bool.not_false, Bool.not_true, if_true, if_false, Bool.false_eq_true, decide_eq_true_eq, ite_true, ite_false, Bool.not_eq_true', decide_eq_false_iff_not, vw_sh, vw_st, ap_ixSh, ap_ixD, ap_ixSt, sh_t3, ap_gtupD, vw_eD, wipeD, reduceIte, Bool.true_eq_false])
def eNP (n : Node) : D := .tup [.tup (n.1.map eD), eSt n.2.1, e3 n.2.2]
theorem ap_gtupNP {r : DGs} {n : Node} {ρ : DS} {R : DS → Prop} : gTupD 3 r (eNP n) ρ R = r [.tup (n.1.map eD), eSt n.2.1, e3 n.2.2] ρ R := (ap_gtup 3 r _).trans (propext ⟨fun h => h.2, fun h => ⟨rfl, h⟩⟩)
theorem ap_ixSta (z : State) (i : Int) {st : List Cell} {Z : D → Prop} : wIxA (eSta z) (.int i) st Z = ∃ d, atI [eSt z.1, e3 z.2] i = some d ∧ Z d := ap_ixT _ _
theorem later_good {L C : Nat} {s : Stand} {x : T3} {d : Deed} {z : State} (h : Good L C (s, x)) (hd : okDeed L d) (e : z ∈ laterM C s x d) : Good L C z := by
  unfold laterM at e
  cases q : isPress d with
  | none =>
    rw [q] at e
    have : z = (movedM s d, x) := by simpa using e
    rw [this]
    exact ⟨h.st.moved d, h.bx⟩
  | some k =>
    rw [q] at e
    rcases List.mem_cons.mp e with e | e
    · rw [e]; exact h
    · cases q2 : partM (pairsAt C s k) x with
      | none => rw [q2] at e; cases e
      | some t =>
        rw [q2] at e
        have : z = (s, t) := by simpa using e
        rw [this]
        refine next_good (z := (s, t)) h hd ?_
        unfold nextL
        rw [q]
        simp only [q2]
        rfl
theorem sp_bring2 : ∀ (ds : List D) st' Q, ds.length = 5 → WfS st' → F_bring2 ds st' Q → b_bring (endsOf st'.length Q) ⟨startD 14 ds, st'⟩ := by
  rintro ds st Q hl wf ⟨L, C, s, x, g, n, rfl, S, hx, hg, hn, h⟩
  show b_bring _ ⟨[some (eSh L C), some (eSt s), some (e3 x), some (e3 g), some (.int (n : Int)), none, none, none, none, none, none, none, none, none], st⟩
  have sz : 50000 < sizeLine := by decide
  have hS0 : SeenOk L C (startX s x).1 := ⟨by simp [startX], fun z hz => by simp [startX] at hz; rw [hz]; exact ⟨S.st, hx⟩⟩
  unfold b_bring
  unfold broughtP at h
  walk_at "d"
  refine ite_dec (fun hxg => ?_) (fun hne => ?_)
  · rw [if_pos hxg] at h
    exact ⟨by decide, ret_same wf (eDs_bel _ (some [])) h⟩
  rw [if_neg hne] at h
  have hN0 : NodesOk L C g 0 (startX s x).1 (startX s x).2 := ⟨fun n hn => by simp [startX] at hn; rw [hn]; exact ⟨S.st, hx⟩, fun n hn => by simp [startX] at hn; rw [hn]; exact hne, fun n hn => by simp [startX] at hn; rw [hn]; simp [startX, aget], fun n hn => by simp [startX] at hn; rw [hn]; rfl, by simp [startX]⟩
  refine ⟨by decide, by decide, by decide, by decide, isKey_sta (s, x), ?_⟩
  refine dFor_ints n (fun i ρ' => ∃ (q : SeenM × List Node) (more : List Cell) (x7 x8 x9 x10 x11 x12 x13 : Option D), loopX (stepP C g) L i (startX s x) = .ok q ∧ SeenOk L C q.1 ∧ NodesOk L C g i q.1 q.2 ∧
    ρ' = ⟨[some (eSh L C), some (eSt s), some (e3 x), some (e3 g), some (.int (n : Int)), some (.lst (q.2.map eNP)), some (.ptr st.length), x7, x8, x9, x10, x11, x12, x13], st ++ eSe q.1 :: more⟩) (fun W hW => ?_) ⟨startX s x, [], _, _, _, _, _, _, _, rfl, hS0, hN0, rfl⟩ ?_ ?_
  · walk_at "d"
    refine ⟨by omega, by omega, ?_⟩
    rw [Int.toNat_natCast]
    exact hW
  · rintro i ρ' hi ⟨q0, more, x7, x8, x9, x10, x11, x12, x13, hlp, hS, hN, rfl⟩
    walk_at "d"
    refine ⟨by decide, ?_⟩
    have em : st ++ eSe q0.1 :: more ++ [Cell.lst []] = st ++ eSe q0.1 :: (more ++ [.lst (([] : List Node).map eNP)]) := by simp
    simp only [m_len, em]
    have found : ∀ (r : List Deed) (nd : List Node) (node : Node) (rest : List Node) (q1 : SeenM × List Node), q0.2 = nd ++ node :: rest → nd.foldlM (nodeX (stepP C g) L) (q0.1, []) = .ok q1 → ∀ (d2 : List Deed) (d : Deed) (rest2 : List Deed) (q2 : SeenM × List Node), deedsM L = d2 ++ d :: rest2 → d2.foldlM (stepP C g node) q1 = .ok q2 → stepP C g node q2 d = .error r →
        ∀ more, retOk st.length Q (.lst (r.map eD)) (st ++ more) := by
      intro r nd node rest q1 e1 h1 d2 d rest2 q2 e2 h2 h3 more
      have hnode : nodeX (stepP C g) L q1 node = .error r := by
        unfold nodeX
        rw [e2]
        exact foldM_err h2 h3
      have hturn : turnX (stepP C g) L q0 = .error r := by
        unfold turnX
        rw [e1]
        exact foldM_err h1 hnode
      have hloop := loopX_err n i _ _ hlp hturn hi
      rw [hloop] at h
      exact ret_app wf (eDs_bel _ (some r)) h
    refine dFor_pre (e := eNP) (l := q0.2) (fun nd ρ' => ∃ (q : SeenM × List Node) (y9 y10 y11 y12 y13 : Option D), nd.foldlM (nodeX (stepP C g) L) (q0.1, []) = .ok q ∧ SeenOk L C q.1 ∧ NodesOk L C g (i + 1) q.1 q.2 ∧
      ρ' = ⟨[some (eSh L C), some (eSt s), some (e3 x), some (e3 g), some (.int (n : Int)), some (.lst (q0.2.map eNP)), some (.ptr st.length), some (.int (i : Int)), some (.ptr (st.length + 1 + more.length)), y9, y10, y11, y12, y13], st ++ eSe q.1 :: (more ++ [.lst (q.2.map eNP)])⟩) (fun W hW => ?_) ⟨(q0.1, []), _, _, _, _, _, rfl, hS, ⟨fun _ h => by simp at h, fun _ h => by simp at h, fun _ h => by simp at h, fun _ h => by simp at h, by simp⟩, rfl⟩ ?_ ?_
    · walk_at "d"
      exact hW
    · rintro nd node rest ρ' er ⟨q1, y9, y10, y11, y12, y13, hf1, hS1, hN1, rfl⟩
      have hmem : node ∈ q0.2 := by rw [er]; simp
      have hgd := hN.gd node hmem
      have hln := hN.ln node hmem
      have found2 := fun r => found r nd node rest q1 er hf1
      obtain ⟨dn, lying, here⟩ := node
      simp only at hgd hln
      simp only [ap_gtupNP]
      walk_at "d"
      refine dFor_pre (e := eD) (l := deedsM L) (fun d2 ρ' => ∃ (q : SeenM × List Node) (z12 z13 : Option D), d2.foldlM (stepP C g (dn, lying, here)) q1 = .ok q ∧ SeenOk L C q.1 ∧ NodesOk L C g (i + 1) q.1 q.2 ∧
        ρ' = ⟨[some (eSh L C), some (eSt s), some (e3 x), some (e3 g), some (.int (n : Int)), some (.lst (q0.2.map eNP)), some (.ptr st.length), some (.int (i : Int)), some (.ptr (st.length + 1 + more.length)), some (.tup (dn.map eD)), some (eSt lying), some (e3 here), z12, z13], st ++ eSe q.1 :: (more ++ [.lst (q.2.map eNP)])⟩) (fun W hW => ?_) ⟨q1, _, _, rfl, hS1, hN1, rfl⟩ ?_ ?_
      · walk_at "d"
        exact ⟨L, C, rfl, S.hL0, by have := S.hL; omega, hW⟩
      · rintro d2 d rest2 ρ' er2 ⟨q2, z12, z13, hf2, hS2, hN2, rfl⟩
        have hd : okDeed L d := deeds_ok (by rw [er2]; simp)
        have hdl : okDeed lying.length d := by rw [hgd.st.len]; exact hd
        have fnd := fun r (hs : stepP C g (dn, lying, here) q2 d = .error r) => found2 r d2 d rest2 q2 er2 hf2 hs
        have hlg : ∀ z ∈ laterM C lying here d, Good L C z := fun z hz => later_good hgd hd hz
        have hdn : dn.length ≤ 12 := by omega
        rw [foldM_snoc, hf2]
        walk_at "d"
        refine dFor_pre (e := eSta) (l := laterM C lying here d) (fun z2 ρ' => ∃ (q : SeenM × List Node) (z13 : Option D), z2.foldlM (visS g dn d) q2 = .ok q ∧ SeenOk L C q.1 ∧ NodesOk L C g (i + 1) q.1 q.2 ∧
          ρ' = ⟨[some (eSh L C), some (eSt s), some (e3 x), some (e3 g), some (.int (n : Int)), some (.lst (q0.2.map eNP)), some (.ptr st.length), some (.int (i : Int)), some (.ptr (st.length + 1 + more.length)), some (.tup (dn.map eD)), some (eSt lying), some (e3 here), some (eD d), z13], st ++ eSe q.1 :: (more ++ [.lst (q.2.map eNP)])⟩) (fun W hW => ?_) ⟨q2, _, rfl, hS2, hN2, rfl⟩ ?_ ?_
        · walk_at "d"
          exact ⟨L, C, lying, here, d, rfl, hdl, hgd.st.stand (by have := S.hL; omega), by have := S.hC; omega, hW⟩
        · rintro z2 z rest3 ρ' er3 ⟨q3, z13, hf3, hS3, hN3, rfl⟩
          have hsml := hS3.small S.hL S.hC
          have hnz := hN3.sz
          have hN3' : NodesOk L C g (dn.length + 1) q3.1 q3.2 := by rw [hln]; exact hN3
          have hzg := hlg z (by rw [er3]; simp)
          walk_at "d"
          simp only [ap_ixSta]
          walk_at "d"
          refine ite_dec (fun hgt => ?_) (fun hgt => ?_)
          · have hv : visS g dn d q3 z = .error (dn ++ [d]) := if_pos hgt
            have hst : stepP C g (dn, lying, here) q2 d = .error (dn ++ [d]) := by
              unfold stepP
              rw [er3]
              exact foldM_err hf3 hv
            have hr := fnd (dn ++ [d]) hst (eSe q3.1 :: (more ++ [.lst (q3.2.map eNP)]))
            rw [List.map_append] at hr
            refine ⟨by decide, by rw [List.length_map]; omega, _, rfl, ?_⟩
            exact hr
          · refine in_cellG (v := .bl) kencS isKey_sta m_get0 ⟨_, rfl, ?_⟩
            by_cases hs : (aget q3.1 z).isSome = true
            · have hv : visS g dn d q3 z = .ok q3 := (if_neg hgt).trans (if_pos hs)
              rw [hs]
              refine (if_neg (by decide)).mpr ?_
              exact ⟨q3, _, by rw [foldM_snoc, hf3]; exact hv, hS3, hN3, rfl⟩
            · have hv : visS g dn d q3 z = .ok (aput q3.1 z true, q3.2 ++ [(dn ++ [d], z.1, z.2)]) := (if_neg hgt).trans (if_neg hs)
              obtain ⟨hS4, hN4, _⟩ := vis_ok hS3 hN3' hzg hv
              have hsf : (aget q3.1 z).isSome = false := by simpa using hs
              rw [hsf]
              refine (if_pos (by decide)).mpr ?_
              refine set_cellG (v := .bl) kencS isKey_sta m_get0 (by omega) ?_
              rw [m_set0]
              refine ⟨⟨_, vw_cell m_get1⟩, by decide, by rw [List.length_map]; omega, by decide, ?_⟩
              show wAdd (.tup [.tup (dn.map eD ++ [eD d])]) (.tup [eSt z.1, e3 z.2]) _ _
              walk_at "d"
              refine ⟨(show 1 + 2 ≤ sizeLine by decide), ?_⟩
              refine ⟨_, _, _, rfl, rfl, m_get1, by rw [List.length_map]; omega, ?_⟩
              rw [m_set1]
              have es : q3.2.map eNP ++ [.tup [.tup (dn.map eD ++ [eD d]), eSt z.1, e3 z.2]] = (q3.2 ++ [(dn ++ [d], z.1, z.2)]).map eNP := by
                rw [List.map_append]
                simp only [eNP, List.map_append, List.map_cons, List.map_nil]
              rw [es]
              rw [hln] at hN4
              exact ⟨_, _, by rw [foldM_snoc, hf3]; exact hv, hS4, hN4, rfl⟩
        · rintro ρ' ⟨q, z13, hf3, hS3, hN3, rfl⟩
          exact ⟨q, _, _, hf3, hS3, hN3, rfl⟩
      · rintro ρ' ⟨q, z12, z13, hf2, hS2, hN2, rfl⟩
        refine ⟨q, _, _, _, _, _, ?_, hS2, hN2, rfl⟩
        rw [foldM_snoc, hf1]
        exact hf2
    · rintro ρ' ⟨q, y9, y10, y11, y12, y13, hf1, hS1, hN1, rfl⟩
      walk_at "d"
      rw [m_get1]
      simp only [m_set1]
      refine ⟨q, _, _, _, _, _, _, _, _, ?_, hS1, hN1, rfl⟩
      rw [loopX_snoc, hlp]
      exact hf1
  · rintro ρ' ⟨q, more, x7, x8, x9, x10, x11, x12, x13, hlp, hS, hN, rfl⟩
    walk_at "d"
    rw [hlp] at h
    exact ret_app wf (bel_non _) h
end BB
set_option maxRecDepth 100000
set_option maxHeartbeats 1000000
namespace BB
open PySem PySem.Spec PyProof.Rows L2
local macro_rules | `(tactic| walk_at "d") => `(tactic| simp only [ap_var, ap_c, ap_op, ap_b, ap_chain, ap_isN, ap_notN, ap_not, ap_and, ap_or, ap_notV, ap_andV, ap_orV, ap_if, ap_nil, ap_cons, ap_tup, ap_lst, ap_newL, ap_call, ap_bt, ap_bm, ap_sl, ap_no, ap_some, ap_rev, ap_frz, ap_get2, ap_oneT, ap_newT, ap_newS, ap_dictNew, ap_isi, ap_gset, ap_gend, ap_gmore, ap_gtup, ap_gtup3, ap_gsub, ap_next, ap_seq, ap_drop, ap_ret, ap_retN, ap_brk, ap_cont, ap_ifS, ap_asg, ap_par, ap_par3, ap_aug, ap_onx, ap_ort, ap_it, ap_enum, ap_items, ap_rg1, ap_rg2, ap_zip, ap_eq, ap_ne, ap_i2, ap_arI, ap_addI, ap_addT, ap_addL, ap_ixT, ap_ixL, ap_ix3, ap_wlen, ap_wtup, ap_btN, ap_isiA, ap_lstRg, ap_ixMk, ap_min2, ap_max2, ap_ixDr, ap_gtupDr2, ap_gtupE, ex_at0, ex_at1, ex_at2, ex_bl, ex_int, ex_sli, ex_som, ex_ptr, ex_l1i, ex_l1l, al_l1i, ex_one,
  List.getElem?_cons_zero, List.getElem?_cons_succ, List.set_cons_zero, List.set_cons_succ, List.length_cons, List.length_nil, deq_int, deq_str, deq_e3, vw_e3, vw_i, vw_t, vw_l, vw_s, vw_n, vw_b, true_and, and_true, sh_i64, sh_n64, List.nil_append, List.cons_append, isN_n, isN_i, isN_t, isN_l, isN_b, isN_p, isNon_e3, Bool.not_false, Bool.not_true, if_true, if_false, Bool.false_eq_true, decide_eq_true_eq, ite_true, ite_false, Bool.not_eq_true', decide_eq_false_iff_not, vw_sh, vw_st, ap_ixSh, ap_ixD, ap_ixSt, sh_t3, ap_gtupD, vw_eD, wipeD, reduceIte, Bool.true_eq_false])
/-! ### the two searches are one -/
theorem vis_mono {g : T3} {dn : List Deed} {d : Deed} {q q' : SeenM × List Node} {z y : State} (h : visS g dn d q z = .ok q') (hy : (aget q.1 y).isSome = true) : (aget q'.1 y).isSome = true := by
  unfold visS at h
  by_cases hg : z.2 = g
  · rw [if_pos hg] at h; cases h
  · rw [if_neg hg] at h
    by_cases hs : (aget q.1 z).isSome = true
    · rw [if_pos hs] at h; cases h; exact hy
    · rw [if_neg hs] at h; cases h; exact some_put hy
theorem stepL_mono {C : Nat} {g : T3} {n : Node} {q q' : SeenM × List Node} {d : Deed} {y : State} (h : stepL C g n q d = .ok q') (hy : (aget q.1 y).isSome = true) : (aget q'.1 y).isSome = true := by
  unfold stepL at h
  cases e : nextL C n.2.1 n.2.2 d with
  | none => rw [e] at h; cases h; exact hy
  | some z => rw [e] at h; exact vis_mono h hy
theorem bind_pure' {ε α : Type} (e : Except ε α) : (e >>= fun q' => pure q') = e := by cases e <;> rfl
theorem fold1 {ε α β : Type} (f : β → α → Except ε β) (q : β) (a : α) : [a].foldlM f q = f q a := by
  rw [List.foldlM_cons]
  exact bind_pure' _
theorem stepP_eq {C : Nat} {g : T3} {n : Node} {q : SeenM × List Node} {d : Deed} (hg : n.2.2 ≠ g) (hs : (aget q.1 (n.2.1, n.2.2)).isSome = true) : stepP C g n q d = stepL C g n q d := by
  cases hp : isPress d with
  | none =>
    have e1 : laterM C n.2.1 n.2.2 d = [(movedM n.2.1 d, n.2.2)] := by unfold laterM; rw [hp]
    have e2 : nextL C n.2.1 n.2.2 d = some (movedM n.2.1 d, n.2.2) := by unfold nextL; rw [hp]
    unfold stepP stepL
    rw [e1, e2, fold1]
  | some k =>
    have h1 : visS g n.1 d q (n.2.1, n.2.2) = .ok q := (if_neg hg).trans (if_pos hs)
    cases hq : partM (pairsAt C n.2.1 k) n.2.2 with
    | none =>
      have e1 : laterM C n.2.1 n.2.2 d = [(n.2.1, n.2.2)] := by unfold laterM; rw [hp]; simp only [hq]
      have e2 : nextL C n.2.1 n.2.2 d = none := by unfold nextL; rw [hp]; simp only [hq]; rfl
      unfold stepP stepL
      rw [e1, e2, fold1, h1]
    | some t =>
      have e1 : laterM C n.2.1 n.2.2 d = [(n.2.1, n.2.2), (n.2.1, t)] := by unfold laterM; rw [hp]; simp only [hq]
      have e2 : nextL C n.2.1 n.2.2 d = some (n.2.1, t) := by unfold nextL; rw [hp]; simp only [hq]; rfl
      unfold stepP stepL
      rw [e1, e2, List.foldlM_cons, h1]
      exact fold1 _ _ _
theorem deedsP_eq {C : Nat} {g : T3} {n : Node} (hg : n.2.2 ≠ g) : ∀ (l : List Deed) (q : SeenM × List Node), (aget q.1 (n.2.1, n.2.2)).isSome = true → l.foldlM (stepP C g n) q = l.foldlM (stepL C g n) q
  | [], q, _ => rfl
  | d :: l, q, hs => by
    rw [List.foldlM_cons, List.foldlM_cons, stepP_eq hg hs]
    cases e : stepL C g n q d with
    | error r => rfl
    | ok q' => exact deedsP_eq hg l q' (stepL_mono e hs)
theorem deedsL_mono {C : Nat} {g : T3} {n : Node} {y : State} : ∀ (l : List Deed) (q q' : SeenM × List Node), l.foldlM (stepL C g n) q = .ok q' → (aget q.1 y).isSome = true → (aget q'.1 y).isSome = true
  | [], q, q', h, hy => by cases h; exact hy
  | d :: l, q, q', h, hy => by
    rw [List.foldlM_cons] at h
    cases e : stepL C g n q d with
    | error r => rw [e] at h; cases h
    | ok q1 => rw [e] at h; exact deedsL_mono l q1 q' h (stepL_mono e hy)
theorem rowsP_eq {L C : Nat} {g : T3} : ∀ (ns : List Node) (q : SeenM × List Node), (∀ n ∈ ns, n.2.2 ≠ g ∧ (aget q.1 (n.2.1, n.2.2)).isSome = true) → ns.foldlM (nodeX (stepP C g) L) q = ns.foldlM (nodeX (stepL C g) L) q
  | [], q, _ => rfl
  | n :: ns, q, h => by
    have hn := h n List.mem_cons_self
    have e1 : nodeX (stepP C g) L q n = nodeX (stepL C g) L q n := deedsP_eq hn.1 _ q hn.2
    rw [List.foldlM_cons, List.foldlM_cons, e1]
    cases e : nodeX (stepL C g) L q n with
    | error r => rfl
    | ok q' => exact rowsP_eq ns q' fun m hm => ⟨(h m (List.mem_cons_of_mem _ hm)).1, deedsL_mono _ q q' e (h m (List.mem_cons_of_mem _ hm)).2⟩
/-! ### what a turn keeps: the runs -/
def runL (C : Nat) : List Deed → State → Option State
  | [], z => some z
  | d :: l, z => (nextL C z.1 z.2 d).bind (runL C l)
theorem runL_snoc (C : Nat) : ∀ (l : List Deed) (d : Deed) (z : State), runL C (l ++ [d]) z = (runL C l z).bind fun y => nextL C y.1 y.2 d
  | [], d, z => by
    show (nextL C z.1 z.2 d).bind (runL C []) = nextL C z.1 z.2 d
    cases nextL C z.1 z.2 d <;> rfl
  | c :: l, d, z => by
    show (nextL C z.1 z.2 c).bind (runL C (l ++ [d])) = ((nextL C z.1 z.2 c).bind (runL C l)).bind _
    cases nextL C z.1 z.2 c with
    | none => rfl
    | some y => exact runL_snoc C l d y
/-- a node of the k-th row -/
structure NodeRun (L C : Nat) (g : T3) (z0 : State) (k : Nat) (n : Node) : Prop where
  rn : runL C n.1 z0 = some (n.2.1, n.2.2)
  ln : n.1.length = k
  dd : ∀ d ∈ n.1, d ∈ deedsM L
  ng : n.2.2 ≠ g
/-- what is told -/
structure Told (L C : Nat) (g : T3) (z0 : State) (k : Nat) (r : List Deed) : Prop where
  rn : ∃ s, runL C r z0 = some (s, g)
  ln : r.length = k + 1
  dd : ∀ d ∈ r, d ∈ deedsM L
  ls : ∃ r' j, r = r' ++ [.press j]
structure RowOk (L C : Nat) (g : T3) (z0 : State) (k : Nat) (q : SeenM × List Node) : Prop where
  nr : ∀ n ∈ q.2, NodeRun L C g z0 k n
  sn : ∀ n ∈ q.2, (aget q.1 (n.2.1, n.2.2)).isSome = true
theorem stepL_row {L C : Nat} {g : T3} {z0 : State} {k : Nat} {n : Node} (hn : NodeRun L C g z0 k n) {d : Deed} (hd : d ∈ deedsM L) {q : SeenM × List Node} (hq : RowOk L C g z0 (k + 1) q) : (∀ r, stepL C g n q d = .error r → Told L C g z0 k r) ∧ ∀ q', stepL C g n q d = .ok q' → RowOk L C g z0 (k + 1) q' := by
  cases e : nextL C n.2.1 n.2.2 d with
  | none =>
    have es : stepL C g n q d = .ok q := by unfold stepL; rw [e]
    rw [es]
    exact ⟨fun r h => (by cases h), fun q' h => (by cases h; exact hq)⟩
  | some z =>
    have es : stepL C g n q d = visS g n.1 d q z := by unfold stepL; rw [e]
    rw [es]
    have hrun : runL C (n.1 ++ [d]) z0 = some z := by rw [runL_snoc, hn.rn]; exact e
    have hdd : ∀ c ∈ n.1 ++ [d], c ∈ deedsM L := fun c hc => by
      rcases List.mem_append.mp hc with hc | hc
      · exact hn.dd c hc
      · have : c = d := by simpa using hc
        rw [this]; exact hd
    unfold visS
    by_cases hg : z.2 = g
    · rw [if_pos hg]
      refine ⟨fun r h => ?_, fun q' h => by cases h⟩
      cases h
      refine ⟨⟨z.1, by rw [hrun, ← hg]⟩, by rw [List.length_append, hn.ln]; rfl, hdd, ?_⟩
      cases q : isPress d with
      | none =>
        unfold nextL at e
        rw [q] at e
        cases e
        exact absurd hg hn.ng
      | some j =>
        obtain ⟨rfl⟩ : d = .press j := by cases d <;> simp [isPress] at q; rw [q]
        exact ⟨n.1, j, rfl⟩
    · rw [if_neg hg]
      by_cases hs : (aget q.1 z).isSome = true
      · rw [if_pos hs]
        exact ⟨fun r h => (by cases h), fun q' h => (by cases h; exact hq)⟩
      · rw [if_neg hs]
        refine ⟨fun r h => (by cases h), fun q' h => ?_⟩
        cases h
        refine ⟨fun m hm => ?_, fun m hm => ?_⟩
        · rcases List.mem_append.mp hm with hm | hm
          · exact hq.nr m hm
          · have : m = (n.1 ++ [d], z.1, z.2) := by simpa using hm
            rw [this]
            exact ⟨hrun, by show (n.1 ++ [d]).length = k + 1; rw [List.length_append, hn.ln]; rfl, hdd, hg⟩
        · rcases List.mem_append.mp hm with hm | hm
          · exact some_put (hq.sn m hm)
          · have : m = (n.1 ++ [d], z.1, z.2) := by simpa using hm
            rw [this]
            show (aget (aput q.1 z true) z).isSome = true
            rw [aget_put, if_pos rfl]; rfl
theorem deeds_row {L C : Nat} {g : T3} {z0 : State} {k : Nat} {n : Node} (hn : NodeRun L C g z0 k n) : ∀ (l : List Deed) (q : SeenM × List Node), (∀ d ∈ l, d ∈ deedsM L) → RowOk L C g z0 (k + 1) q → (∀ r, l.foldlM (stepL C g n) q = .error r → Told L C g z0 k r) ∧ ∀ q', l.foldlM (stepL C g n) q = .ok q' → RowOk L C g z0 (k + 1) q'
  | [], q, _, hq => ⟨fun r h => (by cases h), fun q' h => (by cases h; exact hq)⟩
  | d :: l, q, hd, hq => by
    obtain ⟨h1, h2⟩ := stepL_row hn (hd d List.mem_cons_self) hq
    rw [List.foldlM_cons]
    cases e : stepL C g n q d with
    | error r =>
      refine ⟨fun r' h => ?_, fun q' h => by cases h⟩
      have : r = r' := by injection h
      rw [← this]; exact h1 r e
    | ok q1 => exact deeds_row hn l q1 (fun c hc => hd c (List.mem_cons_of_mem _ hc)) (h2 q1 e)
theorem rows_row {L C : Nat} {g : T3} {z0 : State} {k : Nat} : ∀ (ns : List Node) (q : SeenM × List Node), (∀ n ∈ ns, NodeRun L C g z0 k n) → RowOk L C g z0 (k + 1) q → (∀ r, ns.foldlM (nodeX (stepL C g) L) q = .error r → Told L C g z0 k r) ∧ ∀ q', ns.foldlM (nodeX (stepL C g) L) q = .ok q' → RowOk L C g z0 (k + 1) q'
  | [], q, _, hq => ⟨fun r h => (by cases h), fun q' h => (by cases h; exact hq)⟩
  | n :: ns, q, hn, hq => by
    obtain ⟨h1, h2⟩ := deeds_row (hn n List.mem_cons_self) (deedsM L) q (fun _ h => h) hq
    rw [List.foldlM_cons]
    cases e : nodeX (stepL C g) L q n with
    | error r =>
      refine ⟨fun r' h => ?_, fun q' h => by cases h⟩
      have : r = r' := by injection h
      rw [← this]; exact h1 r e
    | ok q1 => exact rows_row ns q1 (fun m hm => hn m (List.mem_cons_of_mem _ hm)) (h2 q1 e)
theorem turn_row {L C : Nat} {g : T3} {z0 : State} {k : Nat} {q : SeenM × List Node} (hq : RowOk L C g z0 k q) : turnX (stepP C g) L q = turnX (stepL C g) L q ∧ (∀ r, turnX (stepL C g) L q = .error r → Told L C g z0 k r) ∧ ∀ q', turnX (stepL C g) L q = .ok q' → RowOk L C g z0 (k + 1) q' := by
  obtain ⟨h1, h2⟩ := rows_row q.2 (q.1, []) hq.nr ⟨fun _ h => by simp at h, fun _ h => by simp at h⟩
  exact ⟨rowsP_eq q.2 (q.1, []) fun n hn => ⟨(hq.nr n hn).ng, hq.sn n hn⟩, h1, h2⟩
theorem loop_row {L C : Nat} {g : T3} {z0 : State} : ∀ (m k : Nat) (q : SeenM × List Node), RowOk L C g z0 k q → loopX (stepP C g) L m q = loopX (stepL C g) L m q ∧ (∀ r, loopX (stepL C g) L m q = .error r → ∃ j, j < m ∧ Told L C g z0 (k + j) r ∧ (∀ m', j < m' → loopX (stepL C g) L m' q = .error r) ∧ ∃ q', loopX (stepL C g) L j q = .ok q')
  | 0, k, q, hq => ⟨rfl, fun r h => by cases h⟩
  | m + 1, k, q, hq => by
    obtain ⟨h1, h2, h3⟩ := turn_row hq
    show (turnX (stepP C g) L q >>= loopX (stepP C g) L m) = (turnX (stepL C g) L q >>= loopX (stepL C g) L m) ∧ ∀ r, (turnX (stepL C g) L q >>= loopX (stepL C g) L m) = .error r → _
    rw [h1]
    cases e : turnX (stepL C g) L q with
    | error r0 =>
      refine ⟨rfl, fun r h => ?_⟩
      have : r0 = r := by injection h
      subst this
      refine ⟨0, Nat.succ_pos _, h2 _ e, fun m' hm' => ?_, q, rfl⟩
      cases m' with
      | zero => omega
      | succ m' =>
        show (turnX (stepL C g) L q >>= loopX (stepL C g) L m') = _
        rw [e]; rfl
    | ok q1 =>
      obtain ⟨g1, g2⟩ := loop_row m (k + 1) q1 (h3 q1 e)
      refine ⟨g1, fun r h => ?_⟩
      obtain ⟨j, hj, ht, hm, q', hq'⟩ := g2 r h
      refine ⟨j + 1, by omega, by rw [show k + (j + 1) = k + 1 + j by omega]; exact ht, fun m' hm' => ?_, q', ?_⟩
      · cases m' with
        | zero => omega
        | succ m' =>
          show (turnX (stepL C g) L q >>= loopX (stepL C g) L m') = _
          rw [e]
          exact hm m' (by omega)
      · show (turnX (stepL C g) L q >>= loopX (stepL C g) L j) = _
        rw [e]; exact hq'
theorem start_row {L C : Nat} {s : Stand} {x g : T3} (h : x ≠ g) : RowOk L C g (s, x) 0 (startX s x) := ⟨fun n hn => by
  have : n = ([], s, x) := by simpa [startX] using hn
  rw [this]
  exact ⟨rfl, rfl, fun _ h => (nomatch h), h⟩, fun n hn => by
  have : n = ([], s, x) := by simpa [startX] using hn
  rw [this]
  simp [startX, aget]⟩
/-- the judge's list is the program's -/
theorem brought_eq {L C : Nat} {s : Stand} {x g : T3} (h : x ≠ g) (n : Nat) : broughtP L C s x g n = broughtL L C s x g n := by
  unfold broughtP broughtL
  rw [if_neg h, (loop_row n 0 _ (start_row h)).1]
theorem told_of {L C : Nat} {s : Stand} {x g : T3} (h : x ≠ g) {n : Nat} {r : List Deed} (e : broughtP L C s x g n = some r) : ∃ k, k < n ∧ Told L C g (s, x) k r ∧ broughtP L C s x g (k + 1) = some r ∧ broughtP L C s x g k = none := by
  rw [brought_eq h] at e
  unfold broughtL at e
  cases q : loopX (stepL C g) L n (startX s x) with
  | ok q' => rw [q] at e; cases e
  | error r' =>
    rw [q] at e
    have : r' = r := Option.some.inj e
    subst this
    obtain ⟨j, hj, ht, hm, q', hq'⟩ := (loop_row n 0 _ (start_row h)).2 r' q
    rw [Nat.zero_add] at ht
    refine ⟨j, hj, ht, ?_, ?_⟩
    · rw [brought_eq h]; unfold broughtL; rw [hm (j + 1) (Nat.lt_succ_self j)]; rfl
    · rw [brought_eq h]; unfold broughtL; rw [hq']; rfl
end BB
set_option maxRecDepth 100000
set_option maxHeartbeats 1000000
namespace BB
open PySem PySem.Spec PyProof.Rows L2
local macro_rules | `(tactic| walk_at "d") => `(tactic| simp only [ap_var, ap_c, ap_op, ap_b, ap_chain, ap_isN, ap_notN, ap_not, ap_and, ap_or, ap_notV, ap_andV, ap_orV, ap_if, ap_nil, ap_cons, ap_tup, ap_lst, ap_newL, ap_call, ap_bt, ap_bm, ap_sl, ap_no, ap_some, ap_rev, ap_frz, ap_get2, ap_oneT, ap_newT, ap_newS, ap_dictNew, ap_isi, ap_gset, ap_gend, ap_gmore, ap_gtup, ap_gtup3, ap_gsub, ap_next, ap_seq, ap_drop, ap_ret, ap_retN, ap_brk, ap_cont, ap_ifS, ap_asg, ap_par, ap_par3, ap_aug, ap_onx, ap_ort, ap_it, ap_enum, ap_items, ap_rg1, ap_rg2, ap_zip, ap_eq, ap_ne, ap_i2, ap_arI, ap_addI, ap_addT, ap_addL, ap_ixT, ap_ixL, ap_ix3, ap_wlen, ap_wtup, ap_btN, ap_isiA, ap_lstRg, ap_ixMk, ap_min2, ap_max2, ap_ixDr, ap_gtupDr2, ap_gtupE, ex_at0, ex_at1, ex_at2, ex_bl, ex_int, ex_sli, ex_som, ex_ptr, ex_l1i, ex_l1l, al_l1i, ex_one,
  List.getElem?_cons_zero, List.getElem?_cons_succ, List.set_cons_zero, List.set_cons_succ, List.length_cons, List.length_nil, deq_int, deq_str, deq_e3, vw_e3, vw_i, vw_t, vw_l, vw_s, vw_n, vw_b, true_and, and_true, sh_i64, sh_n64, List.nil_append, List.cons_append, isN_n, isN_i, isN_t, isN_l, isN_b, isN_p, isNon_e3, Bool.not_false, Bool.not_true, if_true, if_false, Bool.false_eq_true, decide_eq_true_eq, ite_true, ite_false, Bool.not_eq_true', decide_eq_false_iff_not, vw_sh, vw_st, ap_ixSh, ap_ixD, ap_ixSt, sh_t3, ap_gtupD, vw_eD, wipeD, reduceIte, Bool.true_eq_false])
/-! ### the told list brings it, by the marks -/
structure AllDry (m : Found) (n : Int) : Prop where
  dry : ∀ y v, aget m y = some v → v.2 = n
theorem putM_get (m : Found) (x y : T3) (s d : Int) : aget (putM m x s d) y = if x = y then some (match aget m x with
    | some o => (min o.1 s, max o.2 d)
    | none => (s, d)) else aget m y := by
  unfold putM
  cases aget m x <;> exact aget_put _ _ _ _
theorem putM_dry {m : Found} {n : Int} (h : AllDry m n) (x : T3) (s : Int) : AllDry (putM m x s n) n := ⟨fun y v e => by
  rw [putM_get] at e
  by_cases q : x = y
  · rw [if_pos q] at e
    cases hx : aget m x with
    | none => rw [hx] at e; cases e; rfl
    | some o =>
      rw [hx] at e
      cases e
      have := h.dry x o hx
      simp only
      omega
  · rw [if_neg q] at e; exact h.dry y v e⟩
theorem putM_some {m : Found} {x y : T3} {s d : Int} (h : (aget m y).isSome = true ∨ x = y) : (aget (putM m x s d) y).isSome = true := by
  rw [putM_get]
  by_cases q : x = y
  · rw [if_pos q]; rfl
  · rw [if_neg q]
    rcases h with h | h
    · exact h
    · exact absurd h q
theorem pressOne_n {m : Found} {n t : Int} (h : AllDry m n) (ht : t < n) (p : Pr) : AllDry (pressOne t m p) n ∧ (∀ y, (aget m y).isSome = true → (aget (pressOne t m p) y).isSome = true) ∧ ((aget m p.1).isSome = true ∨ (aget m p.2).isSome = true → (aget (pressOne t m p) p.1).isSome = true ∧ (aget (pressOne t m p) p.2).isSome = true) := by
  have hw : ∀ d ∈ wets t m p, d = n := by
    intro d hd
    unfold wets at hd
    obtain ⟨x, hx, rfl⟩ := List.mem_map.mp hd
    have hx := (List.mem_filter.mp (List.mem_filter.mp hx).1).2
    obtain ⟨v, hv⟩ := Option.isSome_iff_exists.mp hx
    rw [hv]
    exact h.dry x v hv
  unfold pressOne
  by_cases hne : wets t m p = []
  · rw [if_pos hne]
    refine ⟨h, fun _ z => z, fun hs => ?_⟩
    exfalso
    have hin : ∀ x, x = p.1 ∨ x = p.2 → (aget m x).isSome = true → n ∈ wets t m p := by
      intro x hx hsx
      obtain ⟨v, hv⟩ := Option.isSome_iff_exists.mp hsx
      have hvn := h.dry x v hv
      unfold wets
      refine List.mem_map.mpr ⟨x, List.mem_filter.mpr ⟨List.mem_filter.mpr ⟨by rcases hx with rfl | rfl <;> simp, hsx⟩, ?_⟩, ?_⟩
      · rw [hv]; simp only [Option.getD_some, decide_eq_true_eq]; omega
      · rw [hv]; exact hvn
    rcases hs with hs | hs
    · have := hin _ (.inl rfl) hs
      rw [hne] at this; cases this
    · have := hin _ (.inr rfl) hs
      rw [hne] at this; cases this
  · rw [if_neg hne]
    have hmax : maxI (wets t m p) = n := by
      cases hq : wets t m p with
      | nil => exact absurd hq hne
      | cons a l =>
        have := foldl_max_mem l a
        exact hw _ (by rw [hq]; exact this)
    rw [hmax]
    refine ⟨putM_dry (putM_dry h _ _) _ _, fun y hy => putM_some (.inl (putM_some (.inl hy))), fun _ => ⟨putM_some (.inl (putM_some (.inr rfl))), putM_some (.inr rfl)⟩⟩
theorem pressAll_n {n t : Int} (ht : t < n) : ∀ (ps : List Pr) (m : Found), AllDry m n → AllDry (pressAll t m ps) n ∧ (∀ y, (aget m y).isSome = true → (aget (pressAll t m ps) y).isSome = true) ∧ ∀ p ∈ ps, ((aget m p.1).isSome = true ∨ (aget m p.2).isSome = true) → (aget (pressAll t m ps) p.1).isSome = true ∧ (aget (pressAll t m ps) p.2).isSome = true
  | [], m, h => ⟨h, fun _ z => z, fun _ h => (nomatch h)⟩
  | q :: ps, m, h => by
    obtain ⟨h1, h2, h3⟩ := pressOne_n h ht q
    obtain ⟨g1, g2, g3⟩ := pressAll_n ht ps _ h1
    refine ⟨g1, fun y hy => g2 y (h2 y hy), fun p hp hs => ?_⟩
    rcases List.mem_cons.mp hp with rfl | hp
    · obtain ⟨a, b⟩ := h3 hs
      exact ⟨g2 _ a, g2 _ b⟩
    · exact g3 p hp (hs.imp (h2 _) (h2 _))
theorem part_pressed {n t : Int} (ht : t < n) {ps : List Pr} {m : Found} (h : AllDry m n) {x y : T3} (hx : (aget m x).isSome = true) (e : partM ps x = some y) : (aget (pressAll t m ps) y).isSome = true := by
  obtain ⟨p, hp, hz⟩ := partM_mem e
  obtain ⟨_, _, g3⟩ := pressAll_n ht ps m h
  rcases hz with ⟨rfl, rfl⟩ | ⟨rfl, rfl⟩
  · exact (g3 p hp (.inl hx)).2
  · exact (g3 p hp (.inr hx)).1
theorem deed_one {L : Nat} {d : Deed} (h : d ∈ deedsM L) : takesM d = 1 := by
  unfold deedsM at h
  simp only [List.mem_append, List.mem_map, List.mem_range] at h
  rcases h with ((⟨i, hi, rfl⟩ | ⟨i, hi, rfl⟩) | ⟨i, hi, rfl⟩) | ⟨i, hi, rfl⟩ <;> rfl
theorem ticks_one {L : Nat} : ∀ r : List Deed, (∀ d ∈ r, d ∈ deedsM L) → ticksM r = r.length
  | [], _ => rfl
  | d :: r, h => by
    rw [ticksM_cons, deed_one (h d List.mem_cons_self), ticks_one r fun c hc => h c (List.mem_cons_of_mem _ hc), List.length_cons]
    omega
/-- how far the spreading is behind a run -/
def SpRun (C : Nat) (s : Stand) (x : T3) (n : Nat) (r : List Deed) (y : State) : Prop :=
  behindM s r = y.1 ∧ (((evsOf C s r).foldl spStep ([⟨0, x, (n : Int)⟩], []) = ([⟨0, x, (n : Int)⟩], []) ∧ y.2 = x ∧ evsOf C s r = []) ∨
    (((evsOf C s r).foldl spStep ([⟨0, x, (n : Int)⟩], [])).1 = [] ∧ (aget ((evsOf C s r).foldl spStep ([⟨0, x, (n : Int)⟩], [])).2 y.2).isSome = true ∧ AllDry ((evsOf C s r).foldl spStep ([⟨0, x, (n : Int)⟩], [])).2 n))
theorem sp_run {L C : Nat} {s : Stand} {x : T3} {n : Nat} (r : List Deed) : (∀ d ∈ r, d ∈ deedsM L) → r.length ≤ n → ∀ y, runL C r (s, x) = some y → SpRun C s x n r y := by
  refine snoc_ind (P := fun r => (∀ d ∈ r, d ∈ deedsM L) → r.length ≤ n → ∀ y, runL C r (s, x) = some y → SpRun C s x n r y) (fun _ _ y h => ?_) (fun r d ih hd hn y h => ?_) r
  · cases h
    exact ⟨rfl, .inl ⟨rfl, rfl, rfl⟩⟩
  · have hd' : ∀ c ∈ r, c ∈ deedsM L := fun c hc => hd c (List.mem_append_left _ hc)
    rw [List.length_append, List.length_singleton] at hn
    rw [runL_snoc] at h
    cases e : runL C r (s, x) with
    | none => rw [e] at h; cases h
    | some y0 =>
      rw [e] at h
      have h : nextL C y0.1 y0.2 d = some y := h
      obtain ⟨h1, h2⟩ := ih hd' (by omega) y0 e
      have hev : evsOf C s (r ++ [d]) = evsOf C s r ++ evOf C y0.1 r.length (ticksM r) d := by
        have := pressM_snoc C r s 0 0 d
        rw [h1, Nat.zero_add, Int.zero_add] at this
        exact this
      unfold nextL at h
      refine ⟨?_, ?_⟩
      · rw [behindM_snoc, h1]
        cases q : isPress d with
        | none => rw [q] at h; cases h; rfl
        | some k =>
          rw [q] at h
          simp only at h
          cases q2 : partM (pairsAt C y0.1 k) y0.2 with
          | none => rw [q2] at h; cases h
          | some t =>
            rw [q2] at h
            cases h
            exact (movedM_press (s := y0.1) q).1
      · cases q : isPress d with
        | none =>
          rw [q] at h
          cases h
          have : evOf C y0.1 r.length (ticksM r) d = [] := by unfold evOf; rw [q]
          rw [hev, this, List.append_nil]
          exact h2
        | some k =>
          rw [q] at h
          simp only at h
          cases q2 : partM (pairsAt C y0.1 k) y0.2 with
          | none => rw [q2] at h; cases h
          | some t =>
            rw [q2] at h
            cases h
            have hE : evOf C y0.1 r.length (ticksM r) d = [(r.length, ticksM r, pairsAt C y0.1 k)] := by unfold evOf; rw [q]
            rw [hev, hE, List.foldl_append]
            have htk := ticks_one r hd'
            have hlt : ticksM r < (n : Int) := by omega
            right
            rcases h2 with ⟨a, b, c⟩ | ⟨a, b, c⟩
            · rw [a]
              have hdr : drain (ticksM r) [⟨0, x, (n : Int)⟩] [] = ([], putM [] x 0 (0 + (n : Int))) := by
                unfold drain
                rw [if_pos (show (0 : Int) ≤ ticksM r by omega)]; rfl
              have hm : AllDry (putM [] x 0 (0 + (n : Int))) n := by
                rw [Int.zero_add]
                exact putM_dry ⟨fun y v e => by cases e⟩ x 0
              have hx : (aget (putM [] x 0 (0 + (n : Int))) y0.2).isSome = true := putM_some (.inr b.symm)
              show (drain (ticksM r) _ _).1 = [] ∧ (aget (pressAll (ticksM r) (drain (ticksM r) _ _).2 (pairsAt C y0.1 k)) t).isSome = true ∧ AllDry (pressAll (ticksM r) (drain (ticksM r) _ _).2 (pairsAt C y0.1 k)) n
              rw [hdr]
              exact ⟨rfl, part_pressed hlt hm hx q2, (pressAll_n hlt _ _ hm).1⟩
            · generalize (evsOf C s r).foldl spStep ([⟨0, x, (n : Int)⟩], []) = qq at a b c ⊢
              obtain ⟨lf, m⟩ := qq
              simp only at a b c
              subst a
              exact ⟨rfl, part_pressed hlt c b q2, (pressAll_n hlt _ _ c).1⟩
theorem goal_marked {L C : Nat} {s : Stand} {x g : T3} {k n : Nat} {r : List Deed} (hne : x ≠ g) (h : Told L C g (s, x) k r) (hk : k < n) : (aget (spreadM (evsOf C s r) [⟨0, x, (n : Int)⟩]) g).isSome = true := by
  obtain ⟨s', hr⟩ := h.rn
  obtain ⟨_, h2⟩ := sp_run (L := L) (n := n) r h.dd (by rw [h.ln]; omega) _ hr
  unfold spreadM
  rcases h2 with ⟨_, b, _⟩ | ⟨a, b, _⟩
  · exact absurd b.symm hne
  · rw [a]; exact b
end BB
set_option maxRecDepth 100000
set_option maxHeartbeats 1000000
namespace BB
open PySem PySem.Spec PyProof.Rows L2
local macro_rules | `(tactic| walk_at "d") => `(tactic| simp only [ap_var, ap_c, ap_op, ap_b, ap_chain, ap_isN, ap_notN, ap_not, ap_and, ap_or, ap_notV, ap_andV, ap_orV, ap_if, ap_nil, ap_cons, ap_tup, ap_lst, ap_newL, ap_call, ap_bt, ap_bm, ap_sl, ap_no, ap_some, ap_rev, ap_frz, ap_get2, ap_oneT, ap_newT, ap_newS, ap_dictNew, ap_isi, ap_gset, ap_gend, ap_gmore, ap_gtup, ap_gtup3, ap_gsub, ap_next, ap_seq, ap_drop, ap_ret, ap_retN, ap_brk, ap_cont, ap_ifS, ap_asg, ap_par, ap_par3, ap_aug, ap_onx, ap_ort, ap_it, ap_enum, ap_items, ap_rg1, ap_rg2, ap_zip, ap_eq, ap_ne, ap_i2, ap_arI, ap_addI, ap_addT, ap_addL, ap_ixT, ap_ixL, ap_ix3, ap_wlen, ap_wtup, ap_btN, ap_isiA, ap_lstRg, ap_ixMk, ap_min2, ap_max2, ap_ixDr, ap_gtupDr2, ap_gtupE, ex_at0, ex_at1, ex_at2, ex_bl, ex_int, ex_sli, ex_som, ex_ptr, ex_l1i, ex_l1l, al_l1i, ex_one,
  List.getElem?_cons_zero, List.getElem?_cons_succ, List.set_cons_zero, List.set_cons_succ, List.length_cons, List.length_nil, deq_int, deq_str, deq_e3, vw_e3, vw_i, vw_t, vw_l, vw_s, vw_n, vw_b, true_and, and_true, sh_i64, sh_n64, List.nil_append, List.cons_append, isN_n, isN_i, isN_t, isN_l, isN_b, isN_p, isNon_e3, Bool.not_false, Bool.not_true, if_true, if_false, Bool.false_eq_true, decide_eq_true_eq, ite_true, ite_false, Bool.not_eq_true', decide_eq_false_iff_not, vw_sh, vw_st, ap_ixSh, ap_ixD, ap_ixSt, sh_t3, ap_gtupD, vw_eD, wipeD, reduceIte, Bool.true_eq_false])
theorem belC_tape (n : Nat) (ns : List Int) (k c : Int) : belC n (tapeC ns k c) := belC_lst n _ fun d hd => by
  simp only [List.mem_cons, List.not_mem_nil, or_false] at hd
  rcases hd with rfl | rfl | rfl
  · exact bel_mapL fun _ _ => bel_int _ _
  · exact bel_int _ _
  · exact bel_int _ _
theorem cm_p (x y : Int) : CMul (x % 2305843009213693951) y := .inl ⟨by have := Int.emod_nonneg x (b := 2305843009213693951) (by decide); omega, by have := Int.emod_lt_of_pos x (b := 2305843009213693951) (by decide); omega⟩
theorem cm_1 (y : Int) : CMul 1000003 y := .inl ⟨by decide, by decide⟩
theorem cm_2 (y : Int) : CMul 1181783497276652981 y := .inl ⟨by decide, by decide⟩
theorem cpw : CPow 10 18 := ⟨by decide, by decide, by decide⟩
theorem sp_law_draw : ∀ (ds : List D) st' Q, ds.length = 2 → WfS st' → F_law_draw ds st' Q → b_law_draw (endsOf st'.length Q) ⟨startD 5 ds, st'⟩ := by
  rintro ds st Q hl wf ⟨j, ns, k, c, m, rfl, hj, hm, hm2, h⟩
  show b_law_draw _ ⟨[some (.ptr j), some (.int m), none, none, none], st⟩
  unfold b_law_draw
  simp only [ap_seq, ap_asg, ap_c, ap_gset]
  refine nx_gen (I := fun ρ' => ∃ k' c' x1 x2, ρ' = ⟨[some (.ptr j), some (.int m), x1, x2, none], st.set j (tapeC ns k' c')⟩) ?_ ?_
  · rintro ρ' ⟨k', c', x1, x2, rfl⟩
    have hj2 : (st.set j (tapeC ns k' c'))[j]? = some (tapeC ns k' c') := set_get hj _
    walk_at "d"
    simp only [ix_cell hj2]
    walk_at "d"
    refine ⟨hm, ⟨hm, by omega⟩, ?_⟩
    refine set_cellL hj2 2 (by simp) _ ?_
    rw [List.set_set]
    exact ret_set0 wf (belC_tape _ _ _ _) (bel_int _ _) (h _ _ _ (Int.emod_nonneg _ (by omega)) (Int.emod_lt_of_pos _ hm))
  · intro M hM
    have same : ∀ x1 x2, M ⟨[some (.ptr j), some (.int m), x1, x2, none], st⟩ := fun x1 x2 => hM _ ⟨k, c, x1, x2, by
      congr 1
      exact (set_self hj).symm⟩
    have other : ∀ x1 x2 k' c', M ⟨[some (.ptr j), some (.int m), x1, x2, none], st.set j (tapeC ns k' c')⟩ := fun x1 x2 k' c' => hM _ ⟨k', c', x1, x2, rfl⟩
    clear hM
    walk_at "d"
    simp only [ix_cell hj]
    walk_at "d"
    refine ite_dec (fun h1 => ?_) (fun h1 => ?_)
    · have fin : ∀ z : Int, wSetA (.ptr j) (.int 1) (.int (k + 1)) st fun st => wSetA (.ptr j) (.int 2) (.int z) st fun st => M ⟨[some (.ptr j), some (.int m), some (.int 2305843009213693951), some (.int z), none], st⟩ := by
        intro z
        refine set_cellL hj 1 (by simp) _ ?_
        refine set_cellL (set_get hj _) 2 (by simp) _ ?_
        rw [List.set_set]
        exact other _ _ _ _
      simp only [List.length_map]
      refine ite_dec (fun h2 => ?_) (fun h2 => ?_)
      · refine ⟨h2, ?_⟩
        have hp : ∃ n : Nat, n < ns.length ∧ k % (ns.length : Int) = (n : Int) := by
          have h3 := Int.emod_nonneg k (b := (ns.length : Int)) (by omega)
          have h4 := Int.emod_lt_of_pos k h2
          exact ⟨(k % (ns.length : Int)).toNat, by omega, by omega⟩
        obtain ⟨n, hn, en⟩ := hp
        rw [en, atI_map, atI_nat _ _ hn]
        refine ⟨_, rfl, ?_⟩
        generalize ns[n] = v
        walk_at "d"
        refine ite_dec (fun h5 => ?_) (fun h5 => ?_)
        · exact ⟨cm_1 _, by decide, cm_p _ _, cm_2 _, by decide, cm_p _ _, by decide, fin _⟩
        · refine ⟨cpw, ite_dec (fun h6 => ?_) (fun h6 => ?_)⟩
          · exact ⟨cm_1 _, by decide, cm_p _ _, cm_2 _, by decide, cm_p _ _, by decide, fin _⟩
          · exact fin _
      · refine ite_dec (fun h5 => ?_) (fun h5 => ?_)
        · exact ⟨cm_1 _, by decide, cm_p _ _, cm_2 _, by decide, cm_p _ _, by decide, fin _⟩
        · refine ⟨cpw, ite_dec (fun h6 => ?_) (fun h6 => ?_)⟩
          · exact ⟨cm_1 _, by decide, cm_p _ _, cm_2 _, by decide, cm_p _ _, by decide, fin _⟩
          · exact fin _
    · exact same _ _
end BB
set_option maxRecDepth 100000
set_option maxHeartbeats 1000000
namespace BB
open PySem PySem.Spec PyProof.Rows L2
local macro_rules | `(tactic| walk_at "d") => `(tactic| simp only [ap_var, ap_c, ap_op, ap_b, ap_chain, ap_isN, ap_notN, ap_not, ap_and, ap_or, ap_notV, ap_andV, ap_orV, ap_if, ap_nil, ap_cons, ap_tup, ap_lst, ap_newL, ap_call, ap_bt, ap_bm, ap_sl, ap_no, ap_some, ap_rev, ap_frz, ap_get2, ap_oneT, ap_newT, ap_newS, ap_dictNew, ap_isi, ap_gset, ap_gend, ap_gmore, ap_gtup, ap_gtup3, ap_gsub, ap_next, ap_seq, ap_drop, ap_ret, ap_retN, ap_brk, ap_cont, ap_ifS, ap_asg, ap_par, ap_par3, ap_aug, ap_onx, ap_ort, ap_it, ap_enum, ap_items, ap_rg1, ap_rg2, ap_zip, ap_eq, ap_ne, ap_i2, ap_arI, ap_addI, ap_addT, ap_addL, ap_ixT, ap_ixL, ap_ix3, ap_wlen, ap_wtup, ap_btN, ap_isiA, ap_lstRg, ap_ixMk, ap_min2, ap_max2, ap_ixDr, ap_gtupDr2, ap_gtupE, ex_at0, ex_at1, ex_at2, ex_bl, ex_int, ex_sli, ex_som, ex_ptr, ex_l1i, ex_l1l, al_l1i, ex_one,
  List.getElem?_cons_zero, List.getElem?_cons_succ, List.set_cons_zero, List.set_cons_succ, List.length_cons, List.length_nil, deq_int, deq_str, deq_e3, vw_e3, vw_i, vw_t, vw_l, vw_s, vw_n, vw_b, true_and, and_true, sh_i64, sh_n64, List.nil_append, List.cons_append, isN_n, isN_i, isN_t, isN_l, isN_b, isN_p, isNon_e3, Bool.not_false, Bool.not_true, if_true, if_false, Bool.false_eq_true, decide_eq_true_eq, ite_true, ite_false, Bool.not_eq_true', decide_eq_false_iff_not, vw_sh, vw_st, ap_ixSh, ap_ixD, ap_ixSt, sh_t3, ap_gtupD, vw_eD, wipeD, reduceIte, Bool.true_eq_false])
section
variable {st : List Cell} {j : Nat} {ns : List Int} {k c : Int}
theorem draw_ext (hj : st[j]? = some (tapeC ns k c)) {k1 c1 m : Int} {more : List Cell} {Q : D → List Cell → Prop} (h0 : 0 < m) (h1 : m < 1000000) (h : ∀ r k' c' : Int, 0 ≤ r → r < m → Q (.int r) (st.set j (tapeC ns k' c') ++ more)) :
    F_law_draw [.ptr j, .int m] (st.set j (tapeC ns k1 c1) ++ more) Q := by
  have hl := (List.getElem?_eq_some_iff.mp hj).1
  have hl2 : j < (st.set j (tapeC ns k1 c1)).length := by rw [List.length_set]; exact hl
  refine ⟨j, ns, k1, c1, m, rfl, by rw [List.getElem?_append_left hl2, List.getElem?_set_self hl], h0, h1, fun r k' c' hr hr' => ?_⟩
  rw [List.set_append_left _ _ hl2, List.set_set]
  exact h r k' c' hr hr'
theorem draw_set (hj : st[j]? = some (tapeC ns k c)) {k1 c1 m : Int} {Q : D → List Cell → Prop} (h0 : 0 < m) (h1 : m < 1000000) (h : ∀ r k' c' : Int, 0 ≤ r → r < m → Q (.int r) (st.set j (tapeC ns k' c'))) :
    F_law_draw [.ptr j, .int m] (st.set j (tapeC ns k1 c1)) Q := by
  have hl := (List.getElem?_eq_some_iff.mp hj).1
  refine ⟨j, ns, k1, c1, m, rfl, List.getElem?_set_self hl, h0, h1, fun r k' c' hr hr' => ?_⟩
  rw [List.set_set]
  exact h r k' c' hr hr'
theorem draw_st (hj : st[j]? = some (tapeC ns k c)) {m : Int} {Q : D → List Cell → Prop} (h0 : 0 < m) (h1 : m < 1000000) (h : ∀ r k' c' : Int, 0 ≤ r → r < m → Q (.int r) (st.set j (tapeC ns k' c'))) :
    F_law_draw [.ptr j, .int m] st Q := ⟨j, ns, k, c, m, rfl, hj, h0, h1, h⟩
end
theorem ins_perm (l : List Nat) (i n : Nat) (h : l.Perm (List.range n)) : (l.take i ++ [n] ++ l.drop i).Perm (List.range (n + 1)) := by
  rw [List.range_succ]
  have h1 : (l.take i ++ [n] ++ l.drop i).Perm (l.take i ++ l.drop i ++ [n]) := by
    rw [List.append_assoc, List.append_assoc]
    exact List.Perm.append_left _ List.perm_append_comm
  rw [List.take_append_drop] at h1
  exact h1.trans (h.append_right [n])
theorem sp_law_any_order : ∀ (ds : List D) st' Q, ds.length = 2 → WfS st' → F_law_any_order ds st' Q → b_law_any_order (endsOf st'.length Q) ⟨startD 4 ds, st'⟩ := by
  rintro ds st Q hl wf ⟨j, ns, k, c, n, rfl, hj, hn, h⟩
  show b_law_any_order _ ⟨[some (.ptr j), some (.int (n : Int)), none, none], st⟩
  unfold b_law_any_order
  walk_at "d"
  refine ⟨by decide, ?_⟩
  have hjl := (List.getElem?_eq_some_iff.mp hj).1
  refine dFor_ints n (fun i ρ' => ∃ (l : List Nat) (k1 c1 : Int) (x : Option D), l.Perm (List.range i) ∧ ρ' = ⟨[some (.ptr j), some (.int (n : Int)), some (.ptr st.length), x], st.set j (tapeC ns k1 c1) ++ [.lst (l.map fun (i : Nat) => D.int (i : Int))]⟩) (fun W hW => ?_) ⟨[], k, c, _, List.Perm.refl _, by rw [set_self hj]; rfl⟩ ?_ ?_
  · walk_at "d"
    refine ⟨by omega, by omega, ?_⟩
    rw [Int.toNat_natCast]
    exact hW
  · rintro i ρ' hi ⟨l, k1, c1, x, hl, rfl⟩
    walk_at "d"
    have hcell : ∀ (a b : Int) (es : List D), (st.set j (tapeC ns a b) ++ [.lst es])[st.length]? = some (.lst es) := fun a b es => by
      rw [List.getElem?_append_right (by simp)]; simp
    refine ⟨⟨_, vw_cell (hcell _ _ _)⟩, draw_ext hj (by omega) (by omega) fun r k' c' h0 h1 => ?_⟩
    have hll : l.length = i := by rw [hl.length_eq, List.length_range]
    have := sz1000
    refine ⟨_, _, r, _, rfl, rfl, hcell _ _ _, by rw [List.length_map]; omega, h0, by omega, ?_⟩
    refine ⟨l.take r.toNat ++ [i] ++ l.drop r.toNat, k', c', some (.int (i : Int)), ins_perm l r.toNat i hl, ?_⟩
    congr 1
    rw [List.set_append_right _ _ (by simp)]
    simp
  · rintro ρ' ⟨l, k1, c1, x, hl, rfl⟩
    walk_at "d"
    have hcell : (st.set j (tapeC ns k1 c1) ++ [.lst (l.map fun (i : Nat) => D.int (i : Int))])[st.length]? = some (.lst (l.map fun (i : Nat) => D.int (i : Int))) := by
      rw [List.getElem?_append_right (by simp)]; simp
    rw [vw_cell hcell]
    exact ret_set wf (belC_tape _ _ _ _) (bel_map fun _ _ => bel_int _ _) (h l k1 c1 hl)
theorem sp_law_spot : ∀ (ds : List D) st' Q, ds.length = 2 → WfS st' → F_law_spot ds st' Q → b_law_spot (endsOf st'.length Q) ⟨startD 2 ds, st'⟩ := by
  rintro ds st Q hl wf ⟨j, ns, k, c, L, C, rfl, hj, hn, hn2, hm, hm2, h⟩
  show b_law_spot _ ⟨[some (.ptr j), some (eSh L C)], st⟩
  unfold b_law_spot
  walk_at "d"
  refine draw_st hj (by omega) (by omega) fun r k1 c1 h0 h1 => ?_
  refine draw_set hj (by omega) (by omega) fun r2 k2 c2 h2 h3 => ?_
  refine draw_set hj (by omega) (by omega) fun r3 k3 c3 h4 h5 => ?_
  exact ⟨by decide, ret_set0 wf (belC_tape _ _ _ _) (bel_e3 _ (r, r2, r3)) (h (r, r2, r3) _ _ (mem_box h0 h1 h2 h3 h4 h5))⟩
theorem sp_law_stand : ∀ (ds : List D) st' Q, ds.length = 2 → WfS st' → F_law_stand ds st' Q → b_law_stand (endsOf st'.length Q) ⟨startD 3 ds, st'⟩ := by
  rintro ds st Q hl wf ⟨j, ns, k, c, L, C, rfl, hj, hL, h⟩
  show b_law_stand _ ⟨[some (.ptr j), some (eSh L C), none], st⟩
  unfold b_law_stand
  walk_at "d"
  refine draw_st hj (by omega) (by omega) fun r k1 c1 h0 h1 => ?_
  walk_at "d"
  refine ite_dec (fun h2 => ?_) (fun h2 => ?_)
  · refine dLc_map (α := Nat) (l := List.range L) (e := fun i => .int (i : Int)) (f := fun i => e3 ((i : Int), 0, 0)) (fun W hW => ?_) (fun a ha P hP => ?_) ?_
    · walk_at "d"
      refine ⟨by omega, by omega, ?_⟩
      have e : intsD 0 (L : Int).toNat = (List.range L).map fun (i : Nat) => D.int (i : Int) := by
        rw [Int.toNat_natCast]; unfold intsD; simp
      rw [e]; exact hW
    · walk_at "d"
      exact ⟨by decide, hP _ rfl⟩
    · walk_at "d"
      have e : ((List.range L).map fun (i : Nat) => e3 ((i : Int), 0, 0)) = ((List.range L).map fun (i : Nat) => (((i : Int), 0, 0) : T3)).map e3 := by rw [List.map_map]; rfl
      rw [e]
      refine ret_set0 wf (belC_tape _ _ _ _) (bel_st _ _) (h _ _ _ ⟨by rw [List.map_map]; exact List.Perm.refl _, fun p hp => ?_, fun p hp => ?_⟩)
      · obtain ⟨i, _, rfl⟩ := List.mem_map.mp hp; exact .inl rfl
      · obtain ⟨i, _, rfl⟩ := List.mem_map.mp hp; exact .inl rfl
  · unfold dLc
    walk_at "d"
    have hjl := (List.getElem?_eq_some_iff.mp hj).1
    refine ⟨j, ns, k1, c1, L, rfl, List.getElem?_set_self hjl, hL, fun l k2 c2 hlp => ?_⟩
    rw [List.set_set]
    refine ⟨fun i acc st' => ∃ (s : Stand) (k3 c3 : Int), acc = s.map e3 ∧ s.map (·.1) = (l.take i).map (fun (i : Nat) => (i : Int)) ∧ (∀ p ∈ s, p.2.1 = 0 ∨ p.2.1 = 1) ∧ (∀ p ∈ s, p.2.2 = 0 ∨ p.2.2 = 1) ∧ st' = st.set j (tapeC ns k3 c3), ⟨[], k2, c2, rfl, by simp, by simp, by simp, rfl⟩, ?_, ?_⟩
    · rintro i d acc st' hi ⟨s, k3, c3, rfl, hs, ho, ha, rfl⟩
      rw [List.getElem?_map] at hi
      cases q : l[i]? with
      | none => rw [q] at hi; cases hi
      | some a =>
        rw [q] at hi
        cases hi
        unfold dYes
        walk_at "d"
        refine draw_set hj (by omega) (by omega) fun r2 k4 c4 h3 h4 => ?_
        refine draw_set hj (by omega) (by omega) fun r3 k5 c5 h5 h6 => ?_
        refine ⟨by decide, s ++ [((a : Int), r2, r3)], k5, c5, by simp [e3], ?_, ?_, ?_, rfl⟩
        · rw [List.map_append, hs, List.take_succ, q]; simp
        · intro p hp
          rcases List.mem_append.mp hp with hp | hp
          · exact ho p hp
          · have : p = ((a : Int), r2, r3) := by simpa using hp
            rw [this]; show r2 = 0 ∨ r2 = 1; omega
        · intro p hp
          rcases List.mem_append.mp hp with hp | hp
          · exact ha p hp
          · have : p = ((a : Int), r2, r3) := by simpa using hp
            rw [this]; show r3 = 0 ∨ r3 = 1; omega
    · rintro acc st' ⟨s, k3, c3, rfl, hs, ho, ha, rfl⟩
      rw [List.length_map, List.take_length] at hs
      refine ret_set0 wf (belC_tape _ _ _ _) (bel_st _ _) (h s _ _ ⟨by rw [hs]; exact hlp.map _, ho, ha⟩)
theorem six (r : Int) (h0 : 0 ≤ r) (h1 : r < 6) : r = 0 ∨ r = 1 ∨ r = 2 ∨ r = 3 ∨ r = 4 ∨ r = 5 := by omega
end BB
set_option maxRecDepth 100000
set_option maxHeartbeats 1000000
namespace BB
open PySem PySem.Spec PyProof.Rows L2
local macro_rules | `(tactic| walk_at "d") => `(tactic| simp only [ap_var, ap_c, ap_op, ap_b, ap_chain, ap_isN, ap_notN, ap_not, ap_and, ap_or, ap_notV, ap_andV, ap_orV, ap_if, ap_nil, ap_cons, ap_tup, ap_lst, ap_newL, ap_call, ap_bt, ap_bm, ap_sl, ap_no, ap_some, ap_rev, ap_frz, ap_get2, ap_oneT, ap_newT, ap_newS, ap_dictNew, ap_isi, ap_gset, ap_gend, ap_gmore, ap_gtup, ap_gtup3, ap_gsub, ap_next, ap_seq, ap_drop, ap_ret, ap_retN, ap_brk, ap_cont, ap_ifS, ap_asg, ap_par, ap_par3, ap_aug, ap_onx, ap_ort, ap_it, ap_enum, ap_items, ap_rg1, ap_rg2, ap_zip, ap_eq, ap_ne, ap_i2, ap_arI, ap_addI, ap_addT, ap_addL, ap_ixT, ap_ixL, ap_ix3, ap_wlen, ap_wtup, ap_btN, ap_isiA, ap_callK, ap_lstRg, ap_ixMk, ap_min2, ap_max2, ap_ixDr, ap_gtupDr2, ap_gtupE, ex_at0, ex_at1, ex_at2, ex_bl, ex_int, ex_sli, ex_som, ex_ptr, ex_l1i, ex_l1l, al_l1i, ex_one,
  List.getElem?_cons_zero, List.getElem?_cons_succ, List.set_cons_zero, List.set_cons_succ, List.length_cons, List.length_nil, deq_int, deq_str, deq_e3, vw_e3, vw_i, vw_t, vw_l, vw_s, vw_n, vw_b, true_and, and_true, sh_i64, sh_n64, List.nil_append, List.cons_append, isN_n, isN_i, isN_t, isN_l, isN_b, isN_p, isNon_e3, Bool.not_false, Bool.not_true, if_true, if_false, Bool.false_eq_true, decide_eq_true_eq, ite_true, ite_false, Bool.not_eq_true', decide_eq_false_iff_not, vw_sh, vw_st, ap_ixSh, ap_ixD, ap_ixSt, sh_t3, ap_gtupD, vw_eD, wipeD, reduceIte, Bool.true_eq_false])
theorem firstM_ok (L : Nat) : OkSt L (firstM L) := by
  refine ⟨?_, fun p hp => ?_, fun p hp => ?_⟩
  · unfold firstM
    rw [List.map_map]
    exact .of_eq rfl
  · obtain ⟨i, _, rfl⟩ := List.mem_map.mp hp
    exact .inl rfl
  · obtain ⟨i, _, rfl⟩ := List.mem_map.mp hp
    exact .inl rfl
theorem sp_bring : ∀ (ds : List D) st' Q Z, ds.length = 4 + ["wet"].length → WfS st' → FX_bring ds st' Q Z → t_bring ⟨startD 14 ds, st'⟩ fun b ρ => (b = true → Z ρ.st) ∧ (b = false → b_bring (endsOf st'.length Q) ρ) := by
  rintro ds st Q Z hl wf (⟨L, C, s, x, g, n, rfl, S, hx, hg, hn, h⟩ | ⟨L, C, a, b, c, d, rfl, hLC, h⟩)
  · unfold t_bring
    refine ⟨_, rfl, (L : Int), [(C : Int)], rfl, ?_⟩
    refine ⟨_, _, rfl, rfl, _, rfl, fun e => ?_, fun _ => sp_bring2 _ st Q rfl wf ⟨L, C, s, x, g, n, rfl, S, hx, hg, hn, h⟩⟩
    exfalso
    have e := of_decide_eq_true e
    have h1 := S.hL
    have h2 := S.hC
    simp only [List.foldl_cons, List.foldl_nil] at e
    omega
  · unfold t_bring
    refine ⟨_, rfl, (L : Int), [(C : Int)], rfl, ?_⟩
    refine ⟨_, _, rfl, rfl, _, rfl, fun _ => h, fun e => ?_⟩
    exfalso
    have e := of_decide_eq_false e
    simp only [List.foldl_cons, List.foldl_nil] at e
    omega
def endL : DEnds := ⟨fun _ => False, fun x _ => x = .bl true, fun _ => False, fun _ => False⟩
theorem deq_eD (d : Deed) : deq (eD d) (eD d) = true := by
  unfold eD
  rw [deq_cons, deq_cons, deq_nil, deq_str, deq_int]
  simp
theorem deq_ds : ∀ l : List Deed, deq (.lst (l.map eD)) (.lst (l.map eD)) = true
  | [] => rfl
  | d :: l => by rw [List.map_cons, deq_consL, deq_eD, deq_ds l]; rfl
theorem sh_eD2 (d : Deed) : sh 63 (eD d) := (sh_tup _ _).mpr fun x hx => by
  simp only [List.mem_cons, List.not_mem_nil, or_false] at hx
  rcases hx with rfl | rfl
  · exact sh_str' _ _ (sh_word d).1
  · exact sh_int _ _
theorem sh_ds (l : List Deed) : sh 64 (.lst (l.map eD)) := sh_mapL fun d _ => sh_eD2 d
theorem brought_len {L C : Nat} {s : Stand} {x g : T3} {n : Nat} (hn : n ≤ 12) : ∀ l, broughtP L C s x g n = some l → l.length ≤ 1000 := fun l e => by
  by_cases h : x = g
  · rw [show broughtP L C s x g n = some [] from if_pos h] at e
    cases e; decide
  · obtain ⟨k, hk, t, _⟩ := told_of h e
    rw [t.ln]; omega
theorem atI_last {α : Type} (l : List α) (a : α) : atI (l ++ [a]) (-1) = some a := by
  unfold atI ixN
  have e : (l ++ [a]).length = l.length + 1 := by simp
  rw [e, if_neg (by omega)]
  have e2 : ((-1 : Int) + ((l.length + 1 : Nat) : Int)) = (l.length : Int) := by omega
  simp only [e2]
  first
    | (rw [if_pos (by omega)]; simp)
    | simp
theorem box_mono {a b c a' b' c' : Nat} (h1 : a ≤ a') (h2 : b ≤ b') (h3 : c ≤ c') {p : T3} (h : p ∈ box a b c) : p ∈ box a' b' c' := by
  unfold box at h ⊢
  simp only [List.mem_flatMap, List.mem_range, List.mem_map] at h ⊢
  obtain ⟨i, hi, j, hj, k, hk, e⟩ := h
  exact ⟨i, by omega, j, by omega, k, by omega, e⟩
theorem sh_sh (L C : Nat) : sh 64 (eSh L C) := (sh_tup _ _).mpr fun x hx => by
  simp only [List.mem_cons, List.not_mem_nil, or_false] at hx
  rcases hx with rfl | rfl <;> exact sh_int _ _
theorem sh_nil : sh 64 (.lst []) := (sh_lst _ _).mpr fun _ h => nomatch h
end BB
set_option maxRecDepth 100000
set_option maxHeartbeats 1000000
namespace BB
open PySem PySem.Spec PyProof.Rows L2
local macro_rules | `(tactic| walk_at "d") => `(tactic| simp only [ap_var, ap_c, ap_op, ap_b, ap_chain, ap_isN, ap_notN, ap_not, ap_and, ap_or, ap_notV, ap_andV, ap_orV, ap_if, ap_nil, ap_cons, ap_tup, ap_lst, ap_newL, ap_call, ap_bt, ap_bm, ap_sl, ap_no, ap_some, ap_rev, ap_frz, ap_get2, ap_oneT, ap_newT, ap_newS, ap_dictNew, ap_isi, ap_gset, ap_gend, ap_gmore, ap_gtup, ap_gtup3, ap_gsub, ap_next, ap_seq, ap_drop, ap_ret, ap_retN, ap_brk, ap_cont, ap_ifS, ap_asg, ap_par, ap_par3, ap_aug, ap_onx, ap_ort, ap_it, ap_enum, ap_items, ap_rg1, ap_rg2, ap_zip, ap_eq, ap_ne, ap_i2, ap_arI, ap_addI, ap_addT, ap_addL, ap_ixT, ap_ixL, ap_ix3, ap_wlen, ap_wtup, ap_btN, ap_isiA, ap_callK, ap_callX, ap_lstRg, ap_ixMk, ap_min2, ap_max2, ap_ixDr, ap_gtupDr2, ap_gtupE, ex_at0, ex_at1, ex_at2, ex_bl, ex_int, ex_sli, ex_som, ex_ptr, ex_l1i, ex_l1l, al_l1i, ex_one,
  List.getElem?_cons_zero, List.getElem?_cons_succ, List.set_cons_zero, List.set_cons_succ, List.length_cons, List.length_nil, deq_int, deq_str, deq_e3, vw_e3, vw_i, vw_t, vw_l, vw_s, vw_n, vw_b, true_and, and_true, sh_i64, sh_n64, List.nil_append, List.cons_append, isN_n, isN_i, isN_t, isN_l, isN_b, isN_p, isNon_e3, Bool.not_false, Bool.not_true, if_true, if_false, Bool.false_eq_true, decide_eq_true_eq, ite_true, ite_false, Bool.not_eq_true', decide_eq_false_iff_not, vw_sh, vw_st, ap_ixSh, ap_ixD, ap_ixSt, sh_t3, ap_gtupD, vw_eD, wipeD, reduceIte, Bool.true_eq_false])
theorem eEv_eq (e : Ev) : eEv e = .tup [.int (e.1 : Int), .int e.2.1, ePrs e.2.2] := rfl
theorem ap_gtupDr {r : DGs} {f : Int} {x : T3} {wet : Int} {ρ : DS} {R : DS → Prop} : gTupD 3 r (eDrop f x wet) ρ R = r [.int f, e3 x, .int wet] ρ R := (ap_gtup 3 r _).trans (propext ⟨fun h => h.2, fun h => ⟨rfl, h⟩⟩)
theorem ap_gtupRv {r : DGs} {v : Rv} {ρ : DS} {R : DS → Prop} : gTupD 3 r (eRv v) ρ R = r [.int v.1, .int v.2.1, eRd v.2.2] ρ R := (ap_gtup 3 r _).trans (propext ⟨fun h => h.2, fun h => ⟨rfl, h⟩⟩)
theorem part_box {evs : List Ev} (hb : InBox evs) {ev : Ev} (he : ev ∈ evs) {x t : T3} (h : partM ev.2.2 x = some t) : t ∈ box 8 2 6 := by
  obtain ⟨p, hp, z⟩ := partM_mem h
  have := hb ev he p hp
  rcases z with ⟨_, z⟩ | ⟨_, z⟩
  · rw [← z]; exact this.2
  · rw [← z]; exact this.1
def roadIn (ev : Ev) (m m' : List (T3 × Rv)) (p : T3 × Rv) : List (T3 × Rv) := match partM ev.2.2 p.1 with
  | some t => if aget m t = none then aput m' t (ev.2.1, p.2.2.1 + 1, p.2.2.2 ++ [ev.1]) else m'
  | none => m'
structure RdOk (m : List (T3 × Rv)) (k : Nat) : Prop where
  kd : Kd m
  ln : ∀ p ∈ m, p.2.2.2.length ≤ k
theorem roadIn_ok {evs : List Ev} (hb : InBox evs) {ev : Ev} (he : ev ∈ evs) {m m' : List (T3 × Rv)} {k : Nat} (h : RdOk m k) (h' : RdOk m' (k + 1)) {p : T3 × Rv} (hp : p ∈ m) : RdOk (roadIn ev m m' p) (k + 1) := by
  unfold roadIn
  cases q : partM ev.2.2 p.1 with
  | none => exact h'
  | some t =>
    simp only
    by_cases e : aget m t = none
    · rw [if_pos e]
      refine ⟨h'.kd.put (part_box hb he q) _, fun z hz => ?_⟩
      rcases mem_aput hz with hz | hz
      · exact h'.ln z hz
      · rw [hz]
        have := h.ln p hp
        simp only [List.length_append, List.length_singleton]
        omega
    · rw [if_neg e]; exact h'
theorem roadFold_ok {evs : List Ev} (hb : InBox evs) {ev : Ev} (he : ev ∈ evs) {m : List (T3 × Rv)} {k : Nat} (h : RdOk m k) : ∀ (l : List (T3 × Rv)) (m' : List (T3 × Rv)), (∀ p ∈ l, p ∈ m) → RdOk m' (k + 1) → RdOk (l.foldl (roadIn ev m) m') (k + 1)
  | [], m', _, h' => h'
  | p :: l, m', hl, h' => roadFold_ok hb he h l _ (fun q hq => hl q (List.mem_cons_of_mem _ hq)) (roadIn_ok hb he h h' (hl p List.mem_cons_self))
theorem RdOk.up {m : List (T3 × Rv)} {k : Nat} (h : RdOk m k) : RdOk m (k + 1) := ⟨h.kd, fun p hp => Nat.le_succ_of_le (h.ln p hp)⟩
theorem roadStep_eq (f wet : Int) (m : List (T3 × Rv)) (ev : Ev) : roadStep f wet m ev = if f ≤ ev.2.1 ∧ ev.2.1 < f + wet then m.foldl (roadIn ev m) m else m := rfl
theorem roadStep_ok {evs : List Ev} (hb : InBox evs) {ev : Ev} (he : ev ∈ evs) {m : List (T3 × Rv)} {k : Nat} (h : RdOk m k) (f wet : Int) : RdOk (roadStep f wet m ev) (k + 1) := by
  rw [roadStep_eq]
  split
  · exact roadFold_ok hb he h m m (fun _ z => z) h.up
  · exact h.up
theorem roads_ok {f wet : Int} {x : T3} (hx : x ∈ box 8 2 6) {evs : List Ev} (hb : InBox evs) : ∀ done rest, evs = done ++ rest → RdOk (done.foldl (roadStep f wet) [(x, (f, 0, []))]) done.length := by
  refine snoc_ind (fun rest _ => ⟨Kd.one hx _, fun p hp => by simp at hp; rw [hp]; simp⟩) fun done ev ih rest e => ?_
  rw [List.foldl_append, List.length_append, List.length_singleton]
  exact roadStep_ok hb (by rw [e]; simp) (ih ([ev] ++ rest) (by rw [e]; simp)) f wet
theorem sp_roads (w : World) : ∀ (ds : List D) st' Q, ds.length = 4 → WfS st' → F_roads ds st' Q → b_roads w (endsOf st'.length Q) ⟨startD 17 ds, st'⟩ := by
  rintro ds st Q hl wf ⟨L, C, s, r, f, wet, x, rfl, ok, hb, hx, h⟩
  show b_roads w _ ⟨[some (eSh L C), some (eSt s), some (eR r), some (eDrop f x wet), none, none, none, none, none, none, none, none, none, none, none, none, none], st⟩
  unfold b_roads
  walk_at "d"
  simp only [ap_gtupDr]
  walk_at "d"
  refine ⟨by decide, by decide, isKey_e3 x, ?_⟩
  have sz := sz1000
  refine dFor_pre (e := eEv) (l := evsOf C s r) (fun done ρ' => ∃ a1 a2 a3 a4 a5 a6 a7 a8 a9, ρ' = ⟨[some (eSh L C), some (eSt s), some (eR r), some (eDrop f x wet), some (.int f), some (e3 x), some (.int wet), some (.ptr st.length), a1, a2, a3, a4, a5, a6, a7, a8, a9],
    st ++ [.dct (kD e3 (done.foldl (roadStep f wet) [(x, (f, 0, []))])) (vD eRv (done.foldl (roadStep f wet) [(x, (f, 0, []))]))]⟩) (fun W hW => ?_) ⟨_, _, _, _, _, _, _, _, _, rfl⟩ ?_ ?_
  · walk_at "d"
    exact ⟨L, C, s, r, rfl, ok, hW⟩
  · rintro done ev rest ρ' er ⟨a1, a2, a3, a4, a5, a6, a7, a8, a9, rfl⟩
    have hev : ev ∈ evsOf C s r := by rw [er]; simp
    have hm := roads_ok (f := f) (wet := wet) hx hb done (ev :: rest) er
    have hlen : done.length < r.length ∧ r.length ≤ 1000 := by
      have h1 := pressM_len C r s 0 0
      have h2 := congrArg List.length er
      simp only [List.length_append, List.length_cons] at h2
      have : (evsOf C s r).length = (pressM C s 0 0 r).length := rfl
      have := ok.len
      omega
    have es : (done ++ [ev]).foldl (roadStep f wet) [(x, (f, 0, []))] = roadStep f wet (done.foldl (roadStep f wet) [(x, (f, 0, []))]) ev := by rw [List.foldl_append]; rfl
    rw [es, roadStep_eq]
    generalize done.foldl (roadStep f wet) [(x, (f, 0, []))] = m at hm ⊢
    simp only [ap_gtupE]
    walk_at "d"
    refine ite_dec (fun h1 => ?_) (fun h1 => ?_)
    · refine ite_dec (fun h2 => ?_) (fun h2 => ?_)
      · rw [if_pos ⟨h1, h2⟩]
        refine ⟨_, _, _, rfl, dv_cell (app_get _ _), hm.kd.apart w, ?_⟩
        refine dFor_pre (e := fun p : T3 × Rv => .tup [e3 p.1, eRv p.2]) (l := m) (fun d2 ρ' => ∃ b1 b2 b3 b4 b5, ρ' = ⟨[some (eSh L C), some (eSt s), some (eR r), some (eDrop f x wet), some (.int f), some (e3 x), some (.int wet), some (.ptr st.length), some (.int (ev.1 : Int)), some (.int ev.2.1), some (ePrs ev.2.2), some (.dct (kD e3 m) (vD eRv m)), b1, b2, b3, b4, b5],
          st ++ [.dct (kD e3 (d2.foldl (roadIn ev m) m)) (vD eRv (d2.foldl (roadIn ev m) m))]⟩) (fun W hW => ?_) ⟨_, _, _, _, _, rfl⟩ ?_ ?_
        · walk_at "d"
          refine ⟨_, _, rfl, ?_⟩
          rw [items_kv]
          exact hW
        · rintro d2 ⟨hh, v⟩ rest2 ρ' er2 ⟨b1, b2, b3, b4, b5, rfl⟩
          have hpm : (hh, v) ∈ m := by rw [er2]; simp
          have hm2 := roadFold_ok hb hev hm d2 m (fun p hp => by rw [er2]; exact List.mem_append_left _ hp) hm.up
          rw [List.foldl_append]
          simp only [List.foldl_cons, List.foldl_nil]
          generalize d2.foldl (roadIn ev m) m = m' at hm2 ⊢
          simp only [ap_gtup, ap_gmore, ap_gtupRv]
          walk_at "d"
          refine ⟨_, _, rfl, ?_⟩
          unfold roadIn
          cases q : partM ev.2.2 hh with
          | none =>
            simp only [eO, isN_n, Bool.not_true, Bool.false_eq_true, if_false]
            exact ⟨_, _, _, _, _, rfl⟩
          | some t =>
            simp only [eO, isNon_e3, Bool.not_false, if_true]
            refine in_dct (v := eRv) ?_
            refine ⟨_, rfl, ?_⟩
            by_cases e : aget m t = none
            · rw [if_pos e, e]
              refine (if_pos rfl).mpr ?_
              have hv := hm.ln _ hpm
              refine ⟨by decide, by simp [eRd] at hv ⊢; omega, by decide, ?_⟩
              rw [show (D.tup [.int ev.2.1, .int (v.2.1 + 1), .tup (v.2.2.map (fun (n : Nat) => D.int (n : Int)) ++ [.int (ev.1 : Int)])]) = eRv (ev.2.1, v.2.1 + 1, v.2.2 ++ [ev.1]) by simp [eRv, eRd]]
              refine set_cell (v := eRv) (y := (ev.2.1, v.2.1 + 1, v.2.2 ++ [ev.1])) hm2.kd.len ?_
              exact ⟨_, _, _, _, _, rfl⟩
            · rw [if_neg e]
              obtain ⟨y, hy⟩ := Option.ne_none_iff_exists'.mp e
              rw [hy]
              refine (if_neg (by simp)).mpr ?_
              exact ⟨_, _, _, _, _, rfl⟩
        · rintro ρ' ⟨b1, b2, b3, b4, b5, rfl⟩
          exact ⟨_, _, _, _, _, _, _, _, _, rfl⟩
      · rw [if_neg (fun z => h2 z.2)]
        exact ⟨_, _, _, _, _, _, _, _, _, rfl⟩
    · rw [if_neg (fun z => h1 z.1)]
      exact ⟨_, _, _, _, _, _, _, _, _, rfl⟩
  · rintro ρ' ⟨a1, a2, a3, a4, a5, a6, a7, a8, a9, rfl⟩
    walk_at "d"
    rw [app_get]
    simp only [app_set]
    exact ret_app wf (bel_dct fun p _ => ⟨bel_e3 _ _, bel_eRv _ _⟩) h
end BB
set_option maxRecDepth 100000
set_option maxHeartbeats 1000000
namespace BB
open PySem PySem.Spec PyProof.Rows L2
local macro_rules | `(tactic| walk_at "d") => `(tactic| simp only [ap_var, ap_c, ap_op, ap_b, ap_chain, ap_isN, ap_notN, ap_not, ap_and, ap_or, ap_notV, ap_andV, ap_orV, ap_if, ap_nil, ap_cons, ap_tup, ap_lst, ap_newL, ap_call, ap_bt, ap_bm, ap_sl, ap_no, ap_some, ap_rev, ap_frz, ap_get2, ap_oneT, ap_newT, ap_newS, ap_dictNew, ap_isi, ap_gset, ap_gend, ap_gmore, ap_gtup, ap_gtup3, ap_gsub, ap_next, ap_seq, ap_drop, ap_ret, ap_retN, ap_brk, ap_cont, ap_ifS, ap_asg, ap_par, ap_par3, ap_aug, ap_onx, ap_ort, ap_it, ap_enum, ap_items, ap_rg1, ap_rg2, ap_zip, ap_eq, ap_ne, ap_i2, ap_arI, ap_addI, ap_addT, ap_addL, ap_ixT, ap_ixL, ap_ix3, ap_wlen, ap_wtup, ap_btN, ap_isiA, ap_callK, ap_callX, ap_lstRg, ap_ixMk, ap_min2, ap_max2, ap_ixDr, ap_gtupDr2, ap_gtupE, ex_at0, ex_at1, ex_at2, ex_bl, ex_int, ex_sli, ex_som, ex_ptr, ex_l1i, ex_l1l, al_l1i, ex_one,
  List.getElem?_cons_zero, List.getElem?_cons_succ, List.set_cons_zero, List.set_cons_succ, List.length_cons, List.length_nil, deq_int, deq_str, deq_e3, vw_e3, vw_i, vw_t, vw_l, vw_s, vw_n, vw_b, true_and, and_true, sh_i64, sh_n64, List.nil_append, List.cons_append, isN_n, isN_i, isN_t, isN_l, isN_b, isN_p, isNon_e3, Bool.not_false, Bool.not_true, if_true, if_false, Bool.false_eq_true, decide_eq_true_eq, ite_true, ite_false, Bool.not_eq_true', decide_eq_false_iff_not, vw_sh, vw_st, ap_ixSh, ap_ixD, ap_ixSt, sh_t3, ap_gtupD, vw_eD, wipeD, reduceIte, Bool.true_eq_false])
theorem alike_ints : ∀ a b : List Int, PySem.W.alikeAll (pys (a.map .int)) (pys (b.map .int)) = true
  | [], _ => by simp [pys, PySem.W.alikeAll]
  | _ :: _, [] => by simp [pys, PySem.W.alikeAll]
  | x :: a, y :: b => by
    rw [List.map_cons, List.map_cons, pys, pys, PySem.W.alikeAll, alike_ints a b, py, py, PySem.W.alike]; rfl
theorem eRd_int (a : List Nat) : eRd a = .tup ((a.map fun (n : Nat) => (n : Int)).map .int) := by simp [eRd]
theorem alike_rd (a b : List Nat) (n k : Int) : dalike (.tup [.int n, eRd a]) (.tup [.int k, eRd b]) = true := by
  unfold dalike
  rw [eRd_int, eRd_int]
  rw [py, pys, pys, pys, py, py, py, pys, pys, pys, py, py]
  rw [PySem.W.alike, PySem.W.alikeAll, PySem.W.alikeAll, PySem.W.alikeAll, PySem.W.alike, PySem.W.alike, alike_ints]; rfl
theorem sh_rd (a : List Nat) (n : Nat) : sh (n + 1) (eRd a) := sh_map fun _ _ => sh_int _ _
theorem sh_lrd (a : List Nat) (k : Int) : sh 64 (.tup [.int k, eRd a]) := (sh_tup 63 _).mpr fun d hd => by
  simp only [List.mem_cons, List.not_mem_nil, or_false] at hd
  rcases hd with rfl | rfl
  · exact sh_int _ _
  · exact sh_rd a 62
theorem vw_eRd {st : List Cell} (a : List Nat) : vw st (eRd a) = .tup (a.map fun (n : Nat) => D.int (n : Int)) := rfl
theorem isNon_eRd (a : List Nat) : isNon (eRd a) = false := rfl
theorem isNon_eRv (a : Rv) : isNon (eRv a) = false := rfl
theorem sp_is_better : ∀ (ds : List D) st' Q, ds.length = 2 → WfS st' → F_is_better ds st' Q → b_is_better (endsOf st'.length Q) ⟨startD 2 ds, st'⟩ := by
  rintro ds st Q hl wf ⟨a, o, rfl, h⟩
  show b_is_better _ ⟨[some (eRd a), some (eORd o)], st⟩
  unfold b_is_better
  walk_at "d"
  cases o with
  | none =>
    simp only [eORd, isN_n, if_true]
    exact ret_same wf (bel_bl _ _) h
  | some b =>
    simp only [eORd, isNon_eRd, Bool.false_eq_true, if_false, vw_eRd, List.length_map]
    refine ⟨by decide, by decide, sh_lrd a _, sh_lrd b _, alike_rd a b _ _, (by intro z; cases z), ?_⟩
    exact ret_same wf (bel_bl _ _) h
def bestIn (ev : Ev) (m' : List (T3 × List Nat)) (p : T3 × List Nat) : List (T3 × List Nat) := match partM ev.2.2 p.1 with
  | some t => if betterM (p.2 ++ [ev.1]) (aget m' t) = true then aput m' t (p.2 ++ [ev.1]) else m'
  | none => m'
theorem bestStep_eq (f wet t0 : Int) (m : List (T3 × List Nat)) (ev : Ev) : bestStep f wet t0 m ev = if (f ≤ ev.2.1 ∧ ev.2.1 ≤ t0) ∧ ev.2.1 < f + wet then m.foldl (bestIn ev) m else m := rfl
structure BsOk (m : List (T3 × List Nat)) (k : Nat) : Prop where
  kd : Kd m
  ln : ∀ p ∈ m, p.2.length ≤ k
theorem BsOk.up {m : List (T3 × List Nat)} {k : Nat} (h : BsOk m k) : BsOk m (k + 1) := ⟨h.kd, fun p hp => Nat.le_succ_of_le (h.ln p hp)⟩
theorem bestIn_ok {evs : List Ev} (hb : InBox evs) {ev : Ev} (he : ev ∈ evs) {m m' : List (T3 × List Nat)} {k : Nat} (h : BsOk m k) (h' : BsOk m' (k + 1)) {p : T3 × List Nat} (hp : p ∈ m) : BsOk (bestIn ev m' p) (k + 1) := by
  unfold bestIn
  cases q : partM ev.2.2 p.1 with
  | none => exact h'
  | some t =>
    simp only
    split
    · refine ⟨h'.kd.put (part_box hb he q) _, fun z hz => ?_⟩
      rcases mem_aput hz with hz | hz
      · exact h'.ln z hz
      · rw [hz]
        have := h.ln p hp
        simp only [List.length_append, List.length_singleton]
        omega
    · exact h'
theorem bestFold_ok {evs : List Ev} (hb : InBox evs) {ev : Ev} (he : ev ∈ evs) {m : List (T3 × List Nat)} {k : Nat} (h : BsOk m k) : ∀ (l : List (T3 × List Nat)) (m' : List (T3 × List Nat)), (∀ p ∈ l, p ∈ m) → BsOk m' (k + 1) → BsOk (l.foldl (bestIn ev) m') (k + 1)
  | [], m', _, h' => h'
  | p :: l, m', hl, h' => bestFold_ok hb he h l _ (fun q hq => hl q (List.mem_cons_of_mem _ hq)) (bestIn_ok hb he h h' (hl p List.mem_cons_self))
theorem bestStep_ok {evs : List Ev} (hb : InBox evs) {ev : Ev} (he : ev ∈ evs) {m : List (T3 × List Nat)} {k : Nat} (h : BsOk m k) (f wet t0 : Int) : BsOk (bestStep f wet t0 m ev) (k + 1) := by
  rw [bestStep_eq]
  split
  · exact bestFold_ok hb he h m m (fun _ z => z) h.up
  · exact h.up
theorem best_ok {f wet t0 : Int} {x : T3} (hx : x ∈ box 8 2 6) {evs : List Ev} (hb : InBox evs) : ∀ done rest, evs = done ++ rest → BsOk (done.foldl (bestStep f wet t0) [(x, [])]) done.length := by
  refine snoc_ind (fun rest _ => ⟨Kd.one hx _, fun p hp => by simp at hp; rw [hp]; simp⟩) fun done ev ih rest e => ?_
  rw [List.foldl_append, List.length_append, List.length_singleton]
  exact bestStep_ok hb (by rw [e]; simp) (ih ([ev] ++ rest) (by rw [e]; simp)) f wet t0
theorem ap_ixRv (v : Rv) (i : Int) {st : List Cell} {Z : D → Prop} : wIxA (eRv v) (.int i) st Z = ∃ d, atI [.int v.1, .int v.2.1, eRd v.2.2] i = some d ∧ Z d := ap_ixT _ _
theorem done_len {C : Nat} {s : Stand} {r : List Deed} (ok : OkAll C s r) {done : List Ev} {ev : Ev} {rest : List Ev} (er : evsOf C s r = done ++ ev :: rest) : done.length < r.length ∧ r.length ≤ 1000 := by
  have h1 := pressM_len C r s 0 0
  have h2 := congrArg List.length er
  simp only [List.length_append, List.length_cons] at h2
  have : (evsOf C s r).length = (pressM C s 0 0 r).length := rfl
  have := ok.len
  omega
theorem eORd_get (m : List (T3 × List Nat)) (t : T3) : ((aget m t).map eRd).getD .non = eORd (aget m t) := by cases aget m t <;> rfl
theorem rd_snoc (a : List Nat) (n : Nat) : (D.tup (a.map (fun (n : Nat) => D.int (n : Int)) ++ [.int (n : Int)])) = eRd (a ++ [n]) := by simp [eRd]
theorem ap_addRd {a : List Nat} {b : List D} {st : List Cell} {Z : D → Prop} : wAdd (eRd a) (.tup b) st Z = ((a.map fun (n : Nat) => D.int (n : Int)).length + b.length ≤ sizeLine ∧ Z (.tup (a.map (fun (n : Nat) => D.int (n : Int)) ++ b))) := rfl
theorem sp_best_road (w : World) : ∀ (ds : List D) st' Q, ds.length = 5 → WfS st' → F_best_road ds st' Q → b_best_road w (endsOf st'.length Q) ⟨startD 17 ds, st'⟩ := by
  rintro ds st Q hl wf ⟨L, C, s, r, f, wet, x, g, rfl, ok, hb, hx, hbest, h⟩
  show b_best_road w _ ⟨[some (eSh L C), some (eSt s), some (eR r), some (eDrop f x wet), some (e3 g), none, none, none, none, none, none, none, none, none, none, none, none], st⟩
  unfold b_best_road
  walk_at "d"
  refine ⟨L, C, s, r, f, wet, x, rfl, ok, hb, hx, isDi_dct, get_dct (v := eRv) ?_⟩
  have hbest := hbest
  unfold bestOf at h
  cases q : aget (roadsM f wet x (evsOf C s r)) g with
  | none =>
    rw [q] at h
    simp only [Option.map_none, Option.getD_none, isN_n, if_true]
    exact ret_same wf (bel_non _) h
  | some v =>
    rw [q] at h
    obtain ⟨rd, hrd⟩ := Option.isSome_iff_exists.mp (hbest v q)
    simp only [Option.map_some, Option.getD_some, isNon_eRv, Bool.false_eq_true, if_false, ap_gtupDr]
    walk_at "d"
    refine ⟨by decide, isKey_e3 x, ?_⟩
    rw [app_get]
    simp only [app_set]
    refine dFor_pre (e := eEv) (l := evsOf C s r) (fun done ρ' => ∃ more a1 a2 a3 a4 a5 a6 a7, ρ' = ⟨[some (eSh L C), some (eSt s), some (eR r), some (eDrop f x wet), some (e3 g), some (eRv v), some (.int f), some (e3 x), some (.int wet), some (.dct (kD e3 (done.foldl (bestStep f wet v.1) [(x, [])])) (vD eRd (done.foldl (bestStep f wet v.1) [(x, [])]))), a1, a2, a3, a4, a5, a6, a7],
      st ++ more⟩) (fun W hW => ?_) ⟨_, _, _, _, _, _, _, _, rfl⟩ ?_ ?_
    · walk_at "d"
      exact ⟨L, C, s, r, rfl, ok, hW⟩
    · rintro done ev rest ρ' er ⟨more, a1, a2, a3, a4, a5, a6, a7, rfl⟩
      have hev : ev ∈ evsOf C s r := by rw [er]; simp
      have hm := best_ok (f := f) (wet := wet) (t0 := v.1) hx hb done (ev :: rest) er
      have hlen := done_len ok er
      have es : (done ++ [ev]).foldl (bestStep f wet v.1) [(x, [])] = bestStep f wet v.1 (done.foldl (bestStep f wet v.1) [(x, [])]) ev := by rw [List.foldl_append]; rfl
      rw [es, bestStep_eq]
      generalize done.foldl (bestStep f wet v.1) [(x, [])] = m at hm ⊢
      simp only [ap_gtupE]
      walk_at "d"
      simp only [ap_ixRv]
      walk_at "d"
      refine ite_dec (fun h1 => ?_) (fun h1 => ?_)
      · refine ite_dec (fun h2 => ?_) (fun h2 => ?_)
        · refine ite_dec (fun h3 => ?_) (fun h3 => ?_)
          · rw [if_pos ⟨⟨h1, h2⟩, h3⟩]
            refine ⟨_, _, rfl, hm.kd.apart w, ?_⟩
            obtain ⟨st1, hst⟩ : ∃ st1, st1 = st ++ more := ⟨_, rfl⟩
            rw [← hst]
            refine dFor_pre (e := fun p : T3 × List Nat => .tup [e3 p.1, eRd p.2]) (l := m) (fun d2 ρ' => ∃ b1 b2 b3, ρ' = ⟨[some (eSh L C), some (eSt s), some (eR r), some (eDrop f x wet), some (e3 g), some (eRv v), some (.int f), some (e3 x), some (.int wet), some (.dct (kD e3 m) (vD eRd m)), some (.int (ev.1 : Int)), some (.int ev.2.1), some (ePrs ev.2.2), some (.ptr st1.length), b1, b2, b3],
              st1 ++ [.dct (kD e3 (d2.foldl (bestIn ev) m)) (vD eRd (d2.foldl (bestIn ev) m))]⟩) (fun W hW => ?_) ⟨_, _, _, rfl⟩ ?_ ?_
            · walk_at "d"
              refine ⟨_, _, rfl, ?_⟩
              rw [items_kv]
              exact hW
            · rintro d2 ⟨hh, rd2⟩ rest2 ρ' er2 ⟨b1, b2, b3, rfl⟩
              have hpm : (hh, rd2) ∈ m := by rw [er2]; simp
              have hm2 := bestFold_ok hb hev hm d2 m (fun p hp => by rw [er2]; exact List.mem_append_left _ hp) hm.up
              rw [List.foldl_append]
              simp only [List.foldl_cons, List.foldl_nil]
              generalize d2.foldl (bestIn ev) m = m' at hm2 ⊢
              simp only [ap_gtup, ap_gmore]
              walk_at "d"
              refine ⟨_, _, rfl, ?_⟩
              unfold bestIn
              cases q2 : partM ev.2.2 hh with
              | none =>
                simp only [eO, isN_n, Bool.not_true, Bool.false_eq_true, if_false]
                exact ⟨_, _, _, rfl⟩
              | some t =>
                have hv := hm.ln _ hpm
                simp only [eO, isNon_e3, Bool.not_false, if_true, ap_addRd]
                refine ⟨by decide, by simp at hv ⊢; have := sz1000; omega, isDi_cell (app_get _ _), get_cell (v := eRd) (app_get _ _) ?_⟩
                rw [eORd_get, rd_snoc]
                refine ⟨_, _, rfl, _, rfl, ?_⟩
                refine ite_dec (fun h4 => ?_) (fun h4 => ?_)
                · rw [if_pos h4]
                  refine ⟨by decide, by simp at hv ⊢; have := sz1000; omega, ?_⟩
                  refine set_cell (v := eRd) hm2.kd.len ?_
                  exact ⟨_, _, _, rfl⟩
                · rw [if_neg h4]
                  exact ⟨_, _, _, rfl⟩
            · rintro ρ' ⟨b1, b2, b3, rfl⟩
              walk_at "d"
              rw [app_get]
              simp only [app_set]
              rw [hst, List.append_assoc]
              exact ⟨_, _, _, _, _, _, _, _, rfl⟩
          · rw [if_neg (fun z => h3 z.2)]
            exact ⟨_, _, _, _, _, _, _, _, rfl⟩
        · rw [if_neg (fun z => h2 z.1.2)]
          exact ⟨_, _, _, _, _, _, _, _, rfl⟩
      · rw [if_neg (fun z => h1 z.1.1)]
        exact ⟨_, _, _, _, _, _, _, _, rfl⟩
    · rintro ρ' ⟨more, a1, a2, a3, a4, a5, a6, a7, rfl⟩
      walk_at "d"
      refine ix_dct (v := eRd) hrd ?_
      have h : Q (eORd (aget (bestM f wet v.1 x (evsOf C s r)) g)) st := h
      rw [hrd] at h
      exact ret_app wf (bel_eRd _ _) h
end BB
set_option maxRecDepth 100000
set_option maxHeartbeats 1000000
namespace BB
open PySem PySem.Spec PyProof.Rows L2
local macro_rules | `(tactic| walk_at "d") => `(tactic| simp only [ap_var, ap_c, ap_op, ap_b, ap_chain, ap_isN, ap_notN, ap_not, ap_and, ap_or, ap_notV, ap_andV, ap_orV, ap_if, ap_nil, ap_cons, ap_tup, ap_lst, ap_newL, ap_call, ap_bt, ap_bm, ap_sl, ap_no, ap_some, ap_rev, ap_frz, ap_get2, ap_oneT, ap_newT, ap_newS, ap_dictNew, ap_isi, ap_gset, ap_gend, ap_gmore, ap_gtup, ap_gtup3, ap_gsub, ap_next, ap_seq, ap_drop, ap_ret, ap_retN, ap_brk, ap_cont, ap_ifS, ap_asg, ap_par, ap_par3, ap_aug, ap_onx, ap_ort, ap_it, ap_enum, ap_items, ap_rg1, ap_rg2, ap_zip, ap_eq, ap_ne, ap_i2, ap_arI, ap_addI, ap_addT, ap_addL, ap_ixT, ap_ixL, ap_ix3, ap_wlen, ap_wtup, ap_btN, ap_isiA, ap_callK, ap_callX, ap_lstRg, ap_ixMk, ap_min2, ap_max2, ap_ixDr, ap_gtupDr2, ap_gtupE, ex_at0, ex_at1, ex_at2, ex_bl, ex_int, ex_sli, ex_som, ex_ptr, ex_l1i, ex_l1l, al_l1i, ex_one,
  List.getElem?_cons_zero, List.getElem?_cons_succ, List.set_cons_zero, List.set_cons_succ, List.length_cons, List.length_nil, deq_int, deq_str, deq_e3, vw_e3, vw_i, vw_t, vw_l, vw_s, vw_n, vw_b, true_and, and_true, sh_i64, sh_n64, List.nil_append, List.cons_append, isN_n, isN_i, isN_t, isN_l, isN_b, isN_p, isNon_e3, Bool.not_false, Bool.not_true, if_true, if_false, Bool.false_eq_true, decide_eq_true_eq, ite_true, ite_false, Bool.not_eq_true', decide_eq_false_iff_not, vw_sh, vw_st, ap_ixSh, ap_ixD, ap_ixSt, sh_t3, ap_gtupD, vw_eD, wipeD, reduceIte, Bool.true_eq_false])
theorem sp_ticks : ∀ (ds : List D) st' Q, ds.length = 1 → WfS st' → F_ticks ds st' Q → b_ticks (endsOf st'.length Q) ⟨startD 2 ds, st'⟩ := by
  rintro ds st Q hl wf ⟨r, rfl, h⟩
  show b_ticks _ ⟨[some (eR r), none], st⟩
  unfold b_ticks
  walk_at "d"
  refine dLc_map (α := Deed) (l := r) (e := eD) (f := fun d => .int (takesM d)) (fun L hL => ?_) (fun d hd P hP => ?_) ?_
  · walk_at "d"
    exact hL
  · walk_at "d"
    exact ⟨d, rfl, hP _ rfl⟩
  · refine ⟨_, r.map takesM, rfl, by simp [vw], ?_⟩
    exact ret_same wf (bel_int _ _) h
theorem sp_law_shape : ∀ (ds : List D) st' Q, ds.length = 3 → WfS st' → F_law_shape ds st' Q → b_law_shape (endsOf st'.length Q) ⟨startD 3 ds, st'⟩ := by
  rintro ds st Q hl wf ⟨j, ns, k, c, n, m, rfl, hj, hn, hn2, hm, hm2, h⟩
  show b_law_shape _ ⟨[some (.ptr j), some (.int (n : Int)), some (.int (m : Int))], st⟩
  unfold b_law_shape
  walk_at "d"
  refine draw_st hj (by omega) (by omega) fun r k1 c1 h0 h1 => ?_
  walk_at "d"
  refine draw_set hj (by omega) (by omega) fun r2 k2 c2 h2 h3 => ?_
  walk_at "d"
  have e : (D.tup [.int (1 + r), .int (1 + r2)]) = eSh (1 + r).toNat (1 + r2).toNat := by
    unfold eSh
    rw [Int.toNat_of_nonneg (by omega), Int.toNat_of_nonneg (by omega)]
  rw [e]
  exact ⟨by decide, ret_set0 wf (belC_tape _ _ _ _) (bel_sh _ _ _) (h _ _ _ _ (by omega) (by omega) (by omega) (by omega))⟩
theorem sp_law_a_deed : ∀ (ds : List D) st' Q, ds.length = 2 → WfS st' → F_law_a_deed ds st' Q → b_law_a_deed (endsOf st'.length Q) ⟨startD 3 ds, st'⟩ := by
  rintro ds st Q hl wf ⟨j, ns, k, c, L, C, rfl, hj, hL, hL2, h⟩
  show b_law_a_deed _ ⟨[some (.ptr j), some (eSh L C), none], st⟩
  unfold b_law_a_deed
  simp only [ap_seq, ap_asg, ap_call, ap_cons, ap_nil, ap_var, ap_c, ap_gset, List.getElem?_cons_zero, ex_som, List.length_cons, List.length_nil, true_and, List.set_cons_succ, List.set_cons_zero]
  refine draw_st hj (by omega) (by omega) fun r k1 c1 h0 h1 => ?_
  have rt : ∀ (d : Deed) (k2 c2 : Int), OkD L d → retOk st.length Q (eD d) (st.set j (tapeC ns k2 c2)) := fun d k2 c2 hd => ret_set0 wf (belC_tape _ _ _ _) (bel_eD _ _) (h d k2 c2 hd)
  have mk : ∀ (w : Str) (f : Nat → Deed), (∀ n, (f n).word = w ∧ (f n).num = n) → ∀ r2 : Int, 0 ≤ r2 → D.tup [.str w, .int r2] = eD (f r2.toNat) := fun w f hf r2 h => by
    unfold eD
    rw [(hf _).1, (hf _).2, Int.toNat_of_nonneg h]
  refine nx_gen (I := fun ρ' => ρ' = ⟨[some (.ptr j), some (eSh L C), some (.int r)], st.set j (tapeC ns k1 c1)⟩) ?_ ?_
  · rintro ρ' rfl
    walk_at "d"
    refine ite_dec (fun h2 => ?_) (fun h2 => ?_)
    · refine ⟨by decide, by decide, ?_⟩
      have h3 := Int.emod_nonneg r (b := 2) (by decide)
      have h4 := Int.emod_lt_of_pos r (b := 2) (by decide)
      rcases (show r % 2 = 0 ∨ r % 2 = 1 by omega) with e | e
      · rw [e, atI_0]
        refine ⟨_, rfl, draw_set hj (by omega) (by omega) fun r2 k2 c2 h5 h6 => ⟨by decide, ?_⟩⟩
        rw [mk "over" .over (fun _ => ⟨rfl, rfl⟩) r2 h5]
        exact rt _ _ _ ⟨by show r2.toNat < L; omega, Int.le_refl 1, (show (1 : Int) ≤ 9 by decide)⟩
      · rw [e, atI_1]
        refine ⟨_, rfl, draw_set hj (by omega) (by omega) fun r2 k2 c2 h5 h6 => ⟨by decide, ?_⟩⟩
        rw [mk "about" .about (fun _ => ⟨rfl, rfl⟩) r2 h5]
        exact rt _ _ _ ⟨by show r2.toNat < L; omega, Int.le_refl 1, (show (1 : Int) ≤ 9 by decide)⟩
    · refine draw_set hj (by omega) (by omega) fun r2 k2 c2 h5 h6 => ⟨by decide, ?_⟩
      refine draw_set hj (by omega) (by omega) fun r3 k3 c3 h7 h8 => ?_
      rcases (show r3 = 0 ∨ r3 = 1 ∨ r3 = 2 by omega) with rfl | rfl | rfl
      · rw [ap_ixL, atI_0]
        refine ⟨_, rfl, by decide, ?_⟩
        exact rt (.wait 1) _ _ ⟨trivial, by decide, by decide⟩
      · rw [ap_ixL, atI_1]
        refine ⟨_, rfl, by decide, ?_⟩
        exact rt (.wait 2) _ _ ⟨trivial, by decide, by decide⟩
      · rw [ap_ixL, atI_2]
        refine ⟨_, rfl, by decide, ?_⟩
        rw [mk "wait" .wait (fun _ => ⟨rfl, rfl⟩) (1 + r2) (by omega)]
        refine rt _ _ _ ⟨trivial, ?_, ?_⟩
        · show (1 : Int) ≤ ((1 + r2).toNat : Int); omega
        · show ((1 + r2).toNat : Int) ≤ 9; omega
  · intro M hM
    have hM := hM _ rfl
    walk_at "d"
    refine ite_dec (fun h2 => ?_) (fun h2 => hM)
    refine ite_dec (fun h3 => ?_) (fun h3 => hM)
    refine ⟨by decide, ?_⟩
    have p : ∀ r2 k2 c2, 0 ≤ r2 → r2 < (L : Int) - 1 → retOk st.length Q (.tup [.str "press", .int r2]) (st.set j (tapeC ns k2 c2)) := fun r2 k2 c2 h5 h6 => by
      rw [mk "press" .press (fun _ => ⟨rfl, rfl⟩) r2 h5]
      exact rt _ _ _ ⟨by show r2.toNat + 1 < L; omega, Int.le_refl 1, (show (1 : Int) ≤ 9 by decide)⟩
    have q : ∀ r2 k2 c2, 0 ≤ r2 → r2 < (L : Int) - 1 → retOk st.length Q (.tup [.str "swap", .int r2]) (st.set j (tapeC ns k2 c2)) := fun r2 k2 c2 h5 h6 => by
      rw [mk "swap" .swap (fun _ => ⟨rfl, rfl⟩) r2 h5]
      exact rt _ _ _ ⟨by show r2.toNat + 1 < L; omega, Int.le_refl 1, (show (1 : Int) ≤ 9 by decide)⟩
    rcases six r h0 h2 with rfl | rfl | rfl | rfl | rfl | rfl
    · exact ⟨_, rfl, draw_set hj (by omega) (by omega) fun r2 k2 c2 h5 h6 => ⟨by decide, p _ _ _ h5 h6⟩⟩
    · exact ⟨_, rfl, draw_set hj (by omega) (by omega) fun r2 k2 c2 h5 h6 => ⟨by decide, p _ _ _ h5 h6⟩⟩
    · exact ⟨_, rfl, draw_set hj (by omega) (by omega) fun r2 k2 c2 h5 h6 => ⟨by decide, p _ _ _ h5 h6⟩⟩
    · exact ⟨_, rfl, draw_set hj (by omega) (by omega) fun r2 k2 c2 h5 h6 => ⟨by decide, p _ _ _ h5 h6⟩⟩
    · exact ⟨_, rfl, draw_set hj (by omega) (by omega) fun r2 k2 c2 h5 h6 => ⟨by decide, q _ _ _ h5 h6⟩⟩
    · exact ⟨_, rfl, draw_set hj (by omega) (by omega) fun r2 k2 c2 h5 h6 => ⟨by decide, q _ _ _ h5 h6⟩⟩
theorem sp_law_row : ∀ (ds : List D) st' Q, ds.length = 3 → WfS st' → F_law_row ds st' Q → b_law_row (endsOf st'.length Q) ⟨startD 4 ds, st'⟩ := by
  rintro ds st Q hl wf ⟨j, ns, k, c, L, C, n, rfl, hj, hL, hL2, hn, h⟩
  show b_law_row _ ⟨[some (.ptr j), some (eSh L C), some (.int (n : Int)), none], st⟩
  unfold b_law_row
  rw [ap_ret]
  unfold dLc
  walk_at "d"
  refine draw_st hj (by omega) (by omega) fun m k1 c1 h0 h1 => ?_
  walk_at "d"
  refine ⟨by omega, by omega, ?_⟩
  have hjl := (List.getElem?_eq_some_iff.mp hj).1
  refine ⟨fun i acc st' => ∃ (r : List Deed) (k3 c3 : Int), acc = r.map eD ∧ (∀ d ∈ r, OkD L d) ∧ r.length ≤ i ∧ st' = st.set j (tapeC ns k3 c3), ⟨[], k1, c1, rfl, by simp, by simp, rfl⟩, ?_, ?_⟩
  · rintro i d acc st' hi ⟨r, k3, c3, rfl, hr, hlr, rfl⟩
    walk_at "d"
    unfold dYes
    walk_at "d"
    refine ⟨j, ns, k3, c3, L, C, rfl, List.getElem?_set_self hjl, hL, hL2, fun d k4 c4 hd => ?_⟩
    rw [List.set_set]
    refine ⟨r ++ [d], k4, c4, by simp, fun e he => ?_, by simp; omega, rfl⟩
    rcases List.mem_append.mp he with he | he
    · exact hr e he
    · have : e = d := by simpa using he
      rw [this]; exact hd
  · rintro acc st' ⟨r, k3, c3, rfl, hr, hlr, rfl⟩
    rw [intsD_length] at hlr
    exact ret_set0 wf (belC_tape _ _ _ _) (bel_eR _ _) (h r _ _ hr (by omega))
end BB
set_option maxRecDepth 100000
set_option maxHeartbeats 1000000
namespace BB
open PySem PySem.Spec PyProof.Rows L2
local macro_rules | `(tactic| walk_at "d") => `(tactic| simp only [ap_var, ap_c, ap_op, ap_b, ap_chain, ap_isN, ap_notN, ap_not, ap_and, ap_or, ap_notV, ap_andV, ap_orV, ap_if, ap_nil, ap_cons, ap_tup, ap_lst, ap_newL, ap_call, ap_bt, ap_bm, ap_sl, ap_no, ap_some, ap_rev, ap_frz, ap_get2, ap_oneT, ap_newT, ap_newS, ap_dictNew, ap_isi, ap_gset, ap_gend, ap_gmore, ap_gtup, ap_gtup3, ap_gsub, ap_next, ap_seq, ap_drop, ap_ret, ap_retN, ap_brk, ap_cont, ap_ifS, ap_asg, ap_par, ap_par3, ap_aug, ap_onx, ap_ort, ap_it, ap_enum, ap_items, ap_rg1, ap_rg2, ap_zip, ap_eq, ap_ne, ap_i2, ap_arI, ap_addI, ap_addT, ap_addL, ap_ixT, ap_ixL, ap_ix3, ap_wlen, ap_wtup, ap_btN, ap_isiA, ap_callK, ap_callX, ap_lstRg, ap_ixMk, ap_min2, ap_max2, ap_ixDr, ap_gtupDr2, ap_gtupE, ex_at0, ex_at1, ex_at2, ex_bl, ex_int, ex_sli, ex_som, ex_ptr, ex_l1i, ex_l1l, al_l1i, ex_one,
  List.getElem?_cons_zero, List.getElem?_cons_succ, List.set_cons_zero, List.set_cons_succ, List.length_cons, List.length_nil, deq_int, deq_str, deq_e3, vw_e3, vw_i, vw_t, vw_l, vw_s, vw_n, vw_b, true_and, and_true, sh_i64, sh_n64, List.nil_append, List.cons_append, isN_n, isN_i, isN_t, isN_l, isN_b, isN_p, isNon_e3, Bool.not_false, Bool.not_true, if_true, if_false, Bool.false_eq_true, decide_eq_true_eq, ite_true, ite_false, Bool.not_eq_true', decide_eq_false_iff_not, vw_sh, vw_st, ap_ixSh, ap_ixD, ap_ixSt, sh_t3, ap_gtupD, vw_eD, wipeD, reduceIte, Bool.true_eq_false])
theorem ap_ixDp (f : Int) (x : T3) (wet : Int) (i : Int) {st : List Cell} {Z : D → Prop} : wIxA (eDrop f x wet) (.int i) st Z = ∃ d, atI [.int f, e3 x, .int wet] i = some d ∧ Z d := ap_ixT _ _
theorem sp_road : ∀ (ds : List D) st' Q, ds.length = 5 → WfS st' → F_road ds st' Q → b_road (endsOf st'.length Q) ⟨startD 5 ds, st'⟩ := by
  rintro ds st Q hl wf ⟨L, C, s, r, f, wet, x, g, rfl, ok, hb, hx, hbest, h⟩
  show b_road _ ⟨[some (eSh L C), some (eSt s), some (eR r), some (eDrop f x wet), some (e3 g)], st⟩
  unfold b_road
  walk_at "d"
  simp only [ap_ixDp]
  walk_at "d"
  unfold roadM at h
  refine ite_dec (fun h1 => ?_) (fun h1 => ?_)
  · rw [if_pos h1] at h
    exact ⟨by decide, ret_same wf (bel_eRd _ []) h⟩
  · rw [if_neg h1] at h
    exact ⟨L, C, s, r, f, wet, x, g, rfl, ok, hb, hx, hbest, ret_same wf (bel_eORd _ _) h⟩
theorem kdPut {m : List (T3 × Option Int)} (h : Kd m) {a : T3} (ha : a ∈ box 8 2 6) (t : Int) (b : T3) : Kd (lastPut t m a b) := by
  unfold lastPut
  split
  · exact h.put ha _
  · exact h
theorem lastKd {evs : List Ev} (hb : InBox evs) {ev : Ev} (he : ev ∈ evs) : ∀ (l : List Pr) (m : List (T3 × Option Int)), (∀ p ∈ l, p ∈ ev.2.2) → Kd m → Kd (l.foldl (fun m p => lastPut ev.2.1 (lastPut ev.2.1 m p.1 p.2) p.2 p.1) m)
  | [], m, _, h => h
  | p :: l, m, hl, h => by
    have hp := hb ev he p (hl p List.mem_cons_self)
    refine lastKd hb he l _ (fun q hq => hl q (List.mem_cons_of_mem _ hq)) ?_
    exact kdPut (kdPut h hp.1 _ _) hp.2 _ _
theorem last_ok {g : T3} (hg : g ∈ box 8 2 6) {evs : List Ev} (hb : InBox evs) : ∀ done : List Ev, (∀ e ∈ done, e ∈ evs) → Kd (done.foldl lastStep [(g, none)]) := by
  refine snoc_ind (fun _ => Kd.one hg _) fun done ev ih he => ?_
  rw [List.foldl_append]
  exact lastKd hb (he ev (by simp)) _ _ (fun _ z => z) (ih fun e h => he e (List.mem_append_left _ h))
theorem map_rev {α : Type} (f : α → D) (l : List α) : (l.map f).reverse = l.reverse.map f := List.map_reverse.symm
theorem vw_eEvs {st : List Cell} (l : List Ev) : vw st (eEvs l) = .lst (l.map eEv) := rfl
theorem sp_last_tick : ∀ (ds : List D) st' Q, ds.length = 5 → WfS st' → F_last_tick ds st' Q → b_last_tick (endsOf st'.length Q) ⟨startD 13 ds, st'⟩ := by
  rintro ds st Q hl wf ⟨L, C, s, r, x, g, rfl, ok, hb, hg, h⟩
  show b_last_tick _ ⟨[some (eSh L C), some (eSt s), some (eR r), some (e3 x), some (e3 g), none, none, none, none, none, none, none, none], st⟩
  unfold b_last_tick
  walk_at "d"
  unfold lastOf at h
  refine ite_dec (fun h1 => ?_) (fun h1 => ?_)
  · rw [if_pos h1] at h
    exact ⟨r, rfl, ret_same wf (bel_int _ _) h⟩
  · rw [if_neg h1] at h
    refine ⟨isKey_e3 g, ?_⟩
    have hin : ∀ e ∈ (evsOf C s r).reverse, e ∈ evsOf C s r := fun e he => List.mem_reverse.mp he
    refine dFor_pre (e := eEv) (l := (evsOf C s r).reverse) (fun done ρ' => ∃ a1 a2 a3 a4 a5 a6 a7, ρ' = ⟨[some (eSh L C), some (eSt s), some (eR r), some (e3 x), some (e3 g), some (.ptr st.length), a1, a2, a3, a4, a5, a6, a7],
      st ++ [.dct (kD e3 (done.foldl lastStep [(g, none)])) (vD eOI (done.foldl lastStep [(g, none)]))]⟩) (fun W hW => ?_) ⟨_, _, _, _, _, _, _, rfl⟩ ?_ ?_
    · walk_at "d"
      refine ⟨L, C, s, r, rfl, ok, ?_⟩
      simp only [vw_eEvs, map_rev]
      exact hW
    · rintro done ev rest ρ' er ⟨a1, a2, a3, a4, a5, a6, a7, rfl⟩
      have hev : ev ∈ evsOf C s r := hin _ (by rw [er]; simp)
      have hm := last_ok hg hb done (fun e he => hin e (by rw [er]; exact List.mem_append_left _ he))
      rw [List.foldl_append]
      simp only [List.foldl_cons, List.foldl_nil]
      generalize done.foldl lastStep [(g, none)] = m at hm ⊢
      simp only [ap_gtupE]
      walk_at "d"
      refine dFor_pre (e := ePr) (l := ev.2.2) (fun d2 ρ' => ∃ b1 b2 b3 b4, ρ' = ⟨[some (eSh L C), some (eSt s), some (eR r), some (e3 x), some (e3 g), some (.ptr st.length), some (.int (ev.1 : Int)), some (.int ev.2.1), some (ePrs ev.2.2), b1, b2, b3, b4],
        st ++ [.dct (kD e3 (d2.foldl (fun m p => lastPut ev.2.1 (lastPut ev.2.1 m p.1 p.2) p.2 p.1) m)) (vD eOI (d2.foldl (fun m p => lastPut ev.2.1 (lastPut ev.2.1 m p.1 p.2) p.2 p.1) m))]⟩) (fun W hW => ?_) ⟨_, _, _, _, rfl⟩ ?_ ?_
      · walk_at "d"
        exact hW
      · rintro d2 ⟨p1, p2⟩ rest2 ρ' er2 ⟨b1, b2, b3, b4, rfl⟩
        have hpp : ∀ p ∈ d2, p ∈ ev.2.2 := fun p hp => by rw [er2]; exact List.mem_append_left _ hp
        have hm2 := lastKd hb hev d2 m hpp hm
        have hpb := hb ev hev (p1, p2) (by rw [er2]; simp)
        rw [List.foldl_append]
        simp only [List.foldl_cons, List.foldl_nil]
        generalize d2.foldl (fun m p => lastPut ev.2.1 (lastPut ev.2.1 m p.1 p.2) p.2 p.1) m = m' at hm2 ⊢
        show gTupD 2 _ (.tup [e3 p1, e3 p2]) _ _
        simp only [ap_gtup, ap_gmore]
        walk_at "d"
        refine dFor_pre (e := fun p : Pr => .tup [e3 p.1, e3 p.2]) (l := [(p1, p2), (p2, p1)]) (fun d3 ρ' => ∃ c1 c2, ρ' = ⟨[some (eSh L C), some (eSt s), some (eR r), some (e3 x), some (e3 g), some (.ptr st.length), some (.int (ev.1 : Int)), some (.int ev.2.1), some (ePrs ev.2.2), some (e3 p1), some (e3 p2), c1, c2],
          st ++ [.dct (kD e3 (d3.foldl (fun m p => lastPut ev.2.1 m p.1 p.2) m')) (vD eOI (d3.foldl (fun m p => lastPut ev.2.1 m p.1 p.2) m'))]⟩) (fun W hW => ?_) ⟨_, _, rfl⟩ ?_ ?_
        · walk_at "d"
          exact ⟨by decide, by decide, by decide, hW⟩
        · rintro d3 ⟨q1, q2⟩ rest3 ρ' er3 ⟨c1, c2, rfl⟩
          have hq : q1 ∈ box 8 2 6 ∧ ∀ p ∈ d3, p.1 ∈ box 8 2 6 := by
            have hall : ∀ p ∈ [(p1, p2), (p2, p1)], p.1 ∈ box 8 2 6 := fun p hp => by
              simp only [List.mem_cons, List.not_mem_nil, or_false] at hp
              rcases hp with rfl | rfl
              · exact hpb.1
              · exact hpb.2
            rw [er3] at hall
            exact ⟨hall (q1, q2) (by simp), fun p hp => hall p (List.mem_append_left _ hp)⟩
          have hm3 : Kd (d3.foldl (fun m p => lastPut ev.2.1 m p.1 p.2) m') := by
            have : ∀ (l : List Pr) (m : List (T3 × Option Int)), (∀ p ∈ l, p.1 ∈ box 8 2 6) → Kd m → Kd (l.foldl (fun m p => lastPut ev.2.1 m p.1 p.2) m) := by
              intro l
              induction l with
              | nil => exact fun m _ h => h
              | cons p l ih =>
                intro m hl hm
                exact ih _ (fun q hq => hl q (List.mem_cons_of_mem _ hq)) (kdPut hm (hl p List.mem_cons_self) _ _)
            exact this d3 m' hq.2 hm2
          rw [List.foldl_append]
          simp only [List.foldl_cons, List.foldl_nil]
          generalize d3.foldl (fun m p => lastPut ev.2.1 m p.1 p.2) m' = m3 at hm3 ⊢
          simp only [ap_gtup, ap_gmore]
          walk_at "d"
          refine in_cell (v := eOI) (app_get _ _) ⟨_, rfl, ?_⟩
          by_cases h1 : (aget m3 q2).isSome = true
          · by_cases h2 : aget m3 q1 = none
            · rw [show lastPut ev.2.1 m3 q1 q2 = aput m3 q1 (some ev.2.1) from if_pos ⟨h1, h2⟩, h1]
              refine (if_pos rfl).mpr (in_cell (v := eOI) (app_get _ _) ⟨_, rfl, ?_⟩)
              rw [h2]
              refine (if_pos rfl).mpr ?_
              refine set_cell (v := eOI) (y := some ev.2.1) hm3.len ?_
              exact ⟨_, _, rfl⟩
            · rw [show lastPut ev.2.1 m3 q1 q2 = m3 from if_neg (fun z => h2 z.2), h1]
              refine (if_pos rfl).mpr (in_cell (v := eOI) (app_get _ _) ⟨_, rfl, ?_⟩)
              obtain ⟨y, hy⟩ := Option.ne_none_iff_exists'.mp h2
              rw [hy]
              exact (if_neg (show ¬ ((true != true) = true) by decide)).mpr ⟨_, _, rfl⟩
          · rw [show lastPut ev.2.1 m3 q1 q2 = m3 from if_neg (fun z => h1 z.1)]
            have : (aget m3 q2).isSome = false := by simpa using h1
            rw [this]
            exact (if_neg (by decide)).mpr ⟨_, _, rfl⟩
        · rintro ρ' ⟨c1, c2, rfl⟩
          exact ⟨_, _, _, _, rfl⟩
      · rintro ρ' ⟨b1, b2, b3, b4, rfl⟩
        exact ⟨_, _, _, _, _, _, _, rfl⟩
    · rintro ρ' ⟨a1, a2, a3, a4, a5, a6, a7, rfl⟩
      walk_at "d"
      refine ⟨isDi_cell (app_get _ _), get_cell (v := eOI) (app_get _ _) ?_⟩
      have h : Q (eOI ((aget (lastM g (evsOf C s r)) x).getD none)) st := h
      have e : ∀ o : Option (Option Int), (o.map eOI).getD .non = eOI (o.getD none) := fun o => by cases o <;> rfl
      rw [e]
      exact ret_app wf (bel_eOI _ _) h
end BB
set_option maxRecDepth 100000
set_option maxHeartbeats 1000000
namespace BB
open PySem PySem.Spec PyProof.Rows L2
local macro_rules | `(tactic| walk_at "d") => `(tactic| simp only [ap_var, ap_c, ap_op, ap_b, ap_chain, ap_isN, ap_notN, ap_not, ap_and, ap_or, ap_notV, ap_andV, ap_orV, ap_if, ap_nil, ap_cons, ap_tup, ap_lst, ap_newL, ap_call, ap_bt, ap_bm, ap_sl, ap_no, ap_some, ap_rev, ap_frz, ap_get2, ap_oneT, ap_newT, ap_newS, ap_dictNew, ap_isi, ap_gset, ap_gend, ap_gmore, ap_gtup, ap_gtup3, ap_gsub, ap_next, ap_seq, ap_drop, ap_ret, ap_retN, ap_brk, ap_cont, ap_ifS, ap_asg, ap_par, ap_par3, ap_aug, ap_onx, ap_ort, ap_it, ap_enum, ap_items, ap_rg1, ap_rg2, ap_zip, ap_eq, ap_ne, ap_i2, ap_arI, ap_addI, ap_addT, ap_addL, ap_ixT, ap_ixL, ap_ix3, ap_wlen, ap_wtup, ap_btN, ap_isiA, ap_callK, ap_callX, ap_lstRg, ap_ixMk, ap_min2, ap_max2, ap_ixDr, ap_gtupDr2, ap_gtupE, ex_at0, ex_at1, ex_at2, ex_bl, ex_int, ex_sli, ex_som, ex_ptr, ex_l1i, ex_l1l, al_l1i, ex_one,
  List.getElem?_cons_zero, List.getElem?_cons_succ, List.set_cons_zero, List.set_cons_succ, List.length_cons, List.length_nil, deq_int, deq_str, deq_e3, vw_e3, vw_i, vw_t, vw_l, vw_s, vw_n, vw_b, true_and, and_true, sh_i64, sh_n64, List.nil_append, List.cons_append, isN_n, isN_i, isN_t, isN_l, isN_b, isN_p, isNon_e3, Bool.not_false, Bool.not_true, if_true, if_false, Bool.false_eq_true, decide_eq_true_eq, ite_true, ite_false, Bool.not_eq_true', decide_eq_false_iff_not, vw_sh, vw_st, ap_ixSh, ap_ixD, ap_ixSt, sh_t3, ap_gtupD, vw_eD, wipeD, reduceIte, Bool.true_eq_false])
theorem mem_isSome {β : Type} {m : List (T3 × β)} {p : T3 × β} (h : p ∈ m) : (aget m p.1).isSome = true := by
  cases q : aget m p.1 with
  | none => exact absurd (List.mem_map_of_mem (f := fun p : T3 × β => p.1) h) (aget_none.mp q)
  | some v => rfl
theorem roadIn_get (ev : Ev) (m m' : List (T3 × Rv)) (p : T3 × Rv) (y : T3) : aget (roadIn ev m m' p) y = if partM ev.2.2 p.1 = some y ∧ aget m y = none then some (ev.2.1, p.2.2.1 + 1, p.2.2.2 ++ [ev.1]) else aget m' y := by
  unfold roadIn
  cases q : partM ev.2.2 p.1 with
  | none => simp
  | some t =>
    simp only [Option.some.injEq]
    by_cases e : aget m t = none
    · rw [if_pos e, aget_put]
      by_cases h : t = y
      · subst h; rw [if_pos rfl, if_pos ⟨rfl, e⟩]
      · rw [if_neg h, if_neg (fun z => h z.1)]
    · rw [if_neg e]
      rw [if_neg]
      rintro ⟨rfl, h⟩
      exact e h
theorem roadF_some (ev : Ev) (m : List (T3 × Rv)) (y : T3) : ∀ (l m' : List (T3 × Rv)), (aget (l.foldl (roadIn ev m) m') y).isSome = true ↔ (aget m' y).isSome = true ∨ (aget m y = none ∧ ∃ p ∈ l, partM ev.2.2 p.1 = some y)
  | [], m' => by simp
  | p :: l, m' => by
    rw [List.foldl_cons, roadF_some ev m y l, roadIn_get]
    by_cases h : partM ev.2.2 p.1 = some y ∧ aget m y = none
    · rw [if_pos h]
      simp only [Option.isSome_some, true_or, true_iff]
      exact .inr ⟨h.2, p, List.mem_cons_self, h.1⟩
    · rw [if_neg h]
      constructor
      · rintro (z | ⟨z, q, hq, e⟩)
        · exact .inl z
        · exact .inr ⟨z, q, List.mem_cons_of_mem _ hq, e⟩
      · rintro (z | ⟨z, q, hq, e⟩)
        · exact .inl z
        · rcases List.mem_cons.mp hq with hq | hq
          · exact absurd ⟨by rw [← hq]; exact e, z⟩ h
          · exact .inr ⟨z, q, hq, e⟩
theorem roadF_keep (ev : Ev) (m : List (T3 × Rv)) (y : T3) (h : aget m y ≠ none) : ∀ (l m' : List (T3 × Rv)), aget (l.foldl (roadIn ev m) m') y = aget m' y
  | [], m' => rfl
  | p :: l, m' => by rw [List.foldl_cons, roadF_keep ev m y h l, roadIn_get, if_neg (fun z => h z.2)]
theorem roadF_val (ev : Ev) (m : List (T3 × Rv)) (y : T3) : ∀ (l m' : List (T3 × Rv)) (v : Rv), aget (l.foldl (roadIn ev m) m') y = some v → aget m' y = some v ∨ v.1 = ev.2.1
  | [], m', v, h => .inl h
  | p :: l, m', v, h => by
    rw [List.foldl_cons] at h
    rcases roadF_val ev m y l _ v h with h | h
    · rw [roadIn_get] at h
      split at h
      · cases h; exact .inr rfl
      · exact .inl h
    · exact .inr h
def Win (f wet : Int) (E : List Ev) : Prop := ∀ e ∈ E, f ≤ e.2.1 ∧ e.2.1 < f + wet
theorem roads_snoc (f wet : Int) (x : T3) (E : List Ev) (e : Ev) : roadsM f wet x (E ++ [e]) = roadStep f wet (roadsM f wet x E) e := by simp [roadsM]
theorem prs_snoc (E : List Ev) (e : Ev) : prs (E ++ [e]) = prs E ++ [e.2.2] := by simp [prs]
theorem roads_iff {f wet : Int} {x : T3} (y : T3) : ∀ E : List Ev, Win f wet E → ((aget (roadsM f wet x E) y).isSome = true ↔ Rch (prs E) x y) := by
  intro E
  revert y
  refine snoc_ind (P := fun E => ∀ y, Win f wet E → ((aget (roadsM f wet x E) y).isSome = true ↔ Rch (prs E) x y)) (fun y _ => ?_) (fun E e ih y hw => ?_) E
  · show (aget [(x, ((f, 0, []) : Rv))] y).isSome = true ↔ x = y
    unfold aget aget
    by_cases h : x = y
    · simp [h]
    · simp [h]
  · have hw' : Win f wet E := fun d hd => hw d (List.mem_append_left _ hd)
    rw [roads_snoc, roadStep_eq, if_pos (hw e (by simp)), roadF_some, prs_snoc, Rch.snoc, ih y hw']
    constructor
    · rintro (h | ⟨_, p, hp, h⟩)
      · exact .inl h
      · exact .inr ⟨p.1, (ih p.1 hw').mp (mem_isSome hp), h⟩
    · rintro (h | ⟨z, h1, h2⟩)
      · exact .inl h
      · cases q : aget (roadsM f wet x E) y with
        | some v => exact .inl ((ih y hw').mp (by rw [q]; rfl))
        | none =>
          obtain ⟨v, hv⟩ := Option.isSome_iff_exists.mp ((ih z hw').mpr h1)
          exact .inr ⟨rfl, (z, v), aget_some_mem hv, h2⟩
/-- the place at which y is first reached -/
def FirstAt (P : List (List Pr)) (x y : T3) (i : Nat) : Prop := ¬ Rch (P.take i) x y ∧ Rch (P.take (i + 1)) x y
theorem rch_take {P : List (List Pr)} {x y : T3} {i j : Nat} (h : i ≤ j) (r : Rch (P.take i) x y) : Rch (P.take j) x y := r.sub (List.take_sublist_take_left h)
theorem first_uniq {P : List (List Pr)} {x y : T3} {i j : Nat} (h1 : FirstAt P x y i) (h2 : FirstAt P x y j) : i = j := by
  rcases Nat.lt_trichotomy i j with h | h | h
  · exact absurd (rch_take (show i + 1 ≤ j by omega) h1.2) h2.1
  · exact h
  · exact absurd (rch_take (show j + 1 ≤ i by omega) h2.2) h1.1
theorem prs_take (E : List Ev) (i : Nat) : (prs E).take i = prs (E.take i) := by simp [prs, List.map_take]
theorem roads_val {f wet : Int} {x y : T3} (hne : x ≠ y) : ∀ E : List Ev, Win f wet E → ∀ v, aget (roadsM f wet x E) y = some v → ∃ i e, E[i]? = some e ∧ v.1 = e.2.1 ∧ FirstAt (prs E) x y i := by
  intro E
  refine snoc_ind (P := fun E => Win f wet E → ∀ v, aget (roadsM f wet x E) y = some v → ∃ i e, E[i]? = some e ∧ v.1 = e.2.1 ∧ FirstAt (prs E) x y i) (fun _ v h => ?_) (fun E e ih hw v h => ?_) E
  · have h : aget [(x, ((f, 0, []) : Rv))] y = some v := h
    unfold aget aget at h
    rw [if_neg hne] at h; cases h
  · have hw' : Win f wet E := fun d hd => hw d (List.mem_append_left _ hd)
    rw [roads_snoc, roadStep_eq, if_pos (hw e (by simp))] at h
    cases q : aget (roadsM f wet x E) y with
    | some v' =>
      rw [roadF_keep _ _ _ (by rw [q]; exact fun z => nomatch z), q] at h
      cases h
      obtain ⟨i, e', h1, h2, h3, h4⟩ := ih hw' v q
      have hi := (List.getElem?_eq_some_iff.mp h1).1
      have hl : (prs E).length = E.length := by simp [prs]
      refine ⟨i, e', by rw [List.getElem?_append_left hi]; exact h1, h2, ?_⟩
      unfold FirstAt
      rw [prs_snoc, List.take_append_of_le_length (by omega), List.take_append_of_le_length (by omega)]
      exact ⟨h3, h4⟩
    | none =>
      have hr : ¬ Rch (prs E) x y := fun z => by
        have := (roads_iff y E hw').mpr z
        rw [q] at this; cases this
      have hs : (aget (roadsM f wet x (E ++ [e])) y).isSome = true := by
        rw [roads_snoc, roadStep_eq, if_pos (hw e (by simp)), h]; rfl
      have hr2 := (roads_iff y (E ++ [e]) hw).mp hs
      rcases roadF_val _ _ _ _ _ v h with z | z
      · rw [q] at z; cases z
      · refine ⟨E.length, e, by simp, z, ?_⟩
        unfold FirstAt
        have hl : (prs E).length = E.length := by simp [prs]
        rw [prs_snoc, List.take_append_of_le_length (by omega), ← hl, List.take_length]
        refine ⟨hr, ?_⟩
        rw [List.take_of_length_le (by simp)]
        rw [← prs_snoc]; exact hr2
/-! ### the best road -/
theorem bestIn_get (ev : Ev) (m' : List (T3 × List Nat)) (p : T3 × List Nat) (y : T3) : aget (bestIn ev m' p) y = if partM ev.2.2 p.1 = some y ∧ betterM (p.2 ++ [ev.1]) (aget m' y) = true then some (p.2 ++ [ev.1]) else aget m' y := by
  unfold bestIn
  cases q : partM ev.2.2 p.1 with
  | none => simp
  | some t =>
    simp only [Option.some.injEq]
    by_cases e : betterM (p.2 ++ [ev.1]) (aget m' t) = true
    · rw [if_pos e, aget_put]
      by_cases h : t = y
      · subst h; rw [if_pos rfl, if_pos ⟨rfl, e⟩]
      · rw [if_neg h, if_neg (fun z => h z.1)]
    · rw [if_neg e]
      rw [if_neg]
      rintro ⟨rfl, h⟩
      exact e h
theorem bestF_some (ev : Ev) (y : T3) : ∀ (l m' : List (T3 × List Nat)), (aget (l.foldl (bestIn ev) m') y).isSome = true ↔ (aget m' y).isSome = true ∨ ∃ p ∈ l, partM ev.2.2 p.1 = some y
  | [], m' => by simp
  | p :: l, m' => by
    rw [List.foldl_cons, bestF_some ev y l, bestIn_get]
    by_cases h : partM ev.2.2 p.1 = some y
    · have h2 : (aget (bestIn ev m' p) y).isSome = true := by
        rw [bestIn_get]
        cases q : aget m' y with
        | none => rw [if_pos ⟨h, rfl⟩]; rfl
        | some v => split <;> rfl
      rw [bestIn_get] at h2
      rw [h2]
      simp only [true_or, true_iff]
      exact .inr ⟨p, List.mem_cons_self, h⟩
    · rw [if_neg (fun z => h z.1)]
      constructor
      · rintro (z | ⟨q, hq, e⟩)
        · exact .inl z
        · exact .inr ⟨q, List.mem_cons_of_mem _ hq, e⟩
      · rintro (z | ⟨q, hq, e⟩)
        · exact .inl z
        · rcases List.mem_cons.mp hq with hq | hq
          · exact absurd (by rw [← hq]; exact e) h
          · exact .inr ⟨q, hq, e⟩
theorem bestF_val (ev : Ev) (y : T3) : ∀ (l m' : List (T3 × List Nat)) (rd : List Nat), aget (l.foldl (bestIn ev) m') y = some rd → aget m' y = some rd ∨ ∃ p ∈ l, partM ev.2.2 p.1 = some y ∧ rd = p.2 ++ [ev.1]
  | [], m', rd, h => .inl h
  | p :: l, m', rd, h => by
    rw [List.foldl_cons] at h
    rcases bestF_val ev y l _ rd h with h | ⟨q, hq, e⟩
    · rw [bestIn_get] at h
      split at h
      · rename_i z
        cases h; exact .inr ⟨p, List.mem_cons_self, z.1, rfl⟩
      · exact .inl h
    · exact .inr ⟨q, List.mem_cons_of_mem _ hq, e⟩
def bCond (f wet t0 : Int) (e : Ev) : Bool := decide ((f ≤ e.2.1 ∧ e.2.1 ≤ t0) ∧ e.2.1 < f + wet)
theorem best_snoc (f wet t0 : Int) (x : T3) (E : List Ev) (e : Ev) : bestM f wet t0 x (E ++ [e]) = bestStep f wet t0 (bestM f wet t0 x E) e := by simp [bestM]
theorem best_iff {f wet t0 : Int} {x : T3} (E : List Ev) : ∀ y, (aget (bestM f wet t0 x E) y).isSome = true ↔ Rch (prs (E.filter (bCond f wet t0))) x y := by
  refine snoc_ind (P := fun E => ∀ y, (aget (bestM f wet t0 x E) y).isSome = true ↔ Rch (prs (E.filter (bCond f wet t0))) x y) (fun y => ?_) (fun E e ih y => ?_) E
  · show (aget [(x, ([] : List Nat))] y).isSome = true ↔ x = y
    unfold aget aget
    by_cases h : x = y
    · simp [h]
    · simp [h]
  · rw [best_snoc, bestStep_eq, List.filter_append]
    by_cases hc : (f ≤ e.2.1 ∧ e.2.1 ≤ t0) ∧ e.2.1 < f + wet
    · have : bCond f wet t0 e = true := decide_eq_true hc
      rw [if_pos hc, show [e].filter (bCond f wet t0) = [e] by simp [this], prs_snoc, Rch.snoc, bestF_some, ih y]
      constructor
      · rintro (h | ⟨p, hp, h⟩)
        · exact .inl h
        · exact .inr ⟨p.1, (ih p.1).mp (mem_isSome hp), h⟩
      · rintro (h | ⟨z, h1, h2⟩)
        · exact .inl h
        · obtain ⟨v, hv⟩ := Option.isSome_iff_exists.mp ((ih z).mpr h1)
          exact .inr ⟨(z, v), aget_some_mem hv, h2⟩
    · have : bCond f wet t0 e = false := decide_eq_false hc
      rw [if_neg hc, show [e].filter (bCond f wet t0) = [] by simp [this], List.append_nil]
      exact ih y
def PathE : List Ev → List Nat → T3 → T3 → Prop
  | [], rd, x, y => rd = [] ∧ x = y
  | e :: E, rd, x, y => PathE E rd x y ∨ ∃ z rd', rd = e.1 :: rd' ∧ partM e.2.2 x = some z ∧ PathE E rd' z y
theorem PathE.nil : ∀ (E : List Ev) (x : T3), PathE E [] x x
  | [], x => ⟨rfl, rfl⟩
  | _ :: E, x => .inl (PathE.nil E x)
theorem PathE.snoc : ∀ (E : List Ev) (e : Ev) (rd : List Nat) (x y : T3), PathE (E ++ [e]) rd x y ↔ PathE E rd x y ∨ ∃ z rd', rd = rd' ++ [e.1] ∧ PathE E rd' x z ∧ partM e.2.2 z = some y
  | [], e, rd, x, y => by
    show ((rd = [] ∧ x = y) ∨ ∃ z rd', rd = e.1 :: rd' ∧ partM e.2.2 x = some z ∧ (rd' = [] ∧ z = y)) ↔ (rd = [] ∧ x = y) ∨ ∃ z rd', rd = rd' ++ [e.1] ∧ (rd' = [] ∧ x = z) ∧ partM e.2.2 z = some y
    constructor
    · rintro (h | ⟨z, rd', h1, h2, rfl, rfl⟩)
      · exact .inl h
      · exact .inr ⟨x, [], h1, ⟨rfl, rfl⟩, h2⟩
    · rintro (h | ⟨z, rd', h1, ⟨rfl, rfl⟩, h2⟩)
      · exact .inl h
      · exact .inr ⟨y, [], h1, h2, rfl, rfl⟩
  | d :: E, e, rd, x, y => by
    show (PathE (E ++ [e]) rd x y ∨ ∃ z rd', rd = d.1 :: rd' ∧ partM d.2.2 x = some z ∧ PathE (E ++ [e]) rd' z y) ↔ (PathE E rd x y ∨ ∃ z rd', rd = d.1 :: rd' ∧ partM d.2.2 x = some z ∧ PathE E rd' z y) ∨ ∃ z rd', rd = rd' ++ [e.1] ∧ (PathE E rd' x z ∨ ∃ u rd2, rd' = d.1 :: rd2 ∧ partM d.2.2 x = some u ∧ PathE E rd2 u z) ∧ partM e.2.2 z = some y
    rw [PathE.snoc E e rd x y]
    constructor
    · rintro ((h | ⟨z, rd', h1, h2, h3⟩) | ⟨u, rd', h1, h2, h3⟩)
      · exact .inl (.inl h)
      · exact .inr ⟨z, rd', h1, .inl h2, h3⟩
      · rcases (PathE.snoc E e rd' u y).mp h3 with h3 | ⟨z, rd2, h4, h5, h6⟩
        · exact .inl (.inr ⟨u, rd', h1, h2, h3⟩)
        · exact .inr ⟨z, d.1 :: rd2, by rw [h1, h4]; rfl, .inr ⟨u, rd2, rfl, h2, h5⟩, h6⟩
    · rintro ((h | ⟨u, rd', h1, h2, h3⟩) | ⟨z, rd', h1, (h2 | ⟨u, rd2, h2, h3, h4⟩), h5⟩)
      · exact .inl (.inl h)
      · exact .inr ⟨u, rd', h1, h2, (PathE.snoc E e rd' u y).mpr (.inl h3)⟩
      · exact .inl (.inr ⟨z, rd', h1, h2, h5⟩)
      · exact .inr ⟨u, rd2 ++ [e.1], by rw [h1, h2]; rfl, h3, (PathE.snoc E e _ u y).mpr (.inr ⟨z, rd2, rfl, h4, h5⟩)⟩
theorem bestF_nd (ev : Ev) : ∀ (l m' : List (T3 × List Nat)), (m'.map (·.1)).Nodup → ((l.foldl (bestIn ev) m').map (·.1)).Nodup
  | [], m', h => h
  | p :: l, m', h => by
    rw [List.foldl_cons]
    refine bestF_nd ev l _ ?_
    unfold bestIn
    cases partM ev.2.2 p.1 with
    | none => exact h
    | some t =>
      simp only
      by_cases e : betterM (p.2 ++ [ev.1]) (aget m' t) = true
      · rw [if_pos e]; exact aput_nodup _ _ _ h
      · rw [if_neg e]; exact h
theorem best_nd {f wet t0 : Int} {x : T3} (E : List Ev) : ((bestM f wet t0 x E).map (·.1)).Nodup := by
  refine snoc_ind (P := fun E => ((bestM f wet t0 x E).map (·.1)).Nodup) (by simp [bestM]) (fun E e ih => ?_) E
  rw [best_snoc, bestStep_eq]
  split
  · exact bestF_nd e _ _ ih
  · exact ih
theorem best_path {f wet t0 : Int} {x : T3} (E : List Ev) : ∀ y rd, aget (bestM f wet t0 x E) y = some rd → PathE E rd x y := by
  refine snoc_ind (P := fun E => ∀ y rd, aget (bestM f wet t0 x E) y = some rd → PathE E rd x y) (fun y rd h => ?_) (fun E e ih y rd h => ?_) E
  · have h : aget [(x, ([] : List Nat))] y = some rd := h
    unfold aget aget at h
    by_cases e : x = y
    · rw [if_pos e] at h; cases h; exact ⟨rfl, e⟩
    · rw [if_neg e] at h; cases h
  · rw [best_snoc, bestStep_eq] at h
    rw [PathE.snoc]
    split at h
    · rcases bestF_val _ _ _ _ _ h with h | ⟨p, hp, h1, h2⟩
      · exact .inl (ih y rd h)
      · exact .inr ⟨p.1, p.2, h2, ih _ _ (aget_mem (best_nd _) hp), h1⟩
    · exact .inl (ih y rd h)
/-! ### a row's events -/
structure Evs (E : List Ev) (n : Nat) (T : Int) : Prop where
  at_ : ∀ e ∈ E, e.1 < n
  tk : ∀ e ∈ E, 0 ≤ e.2.1 ∧ e.2.1 < T
  lt : E.Pairwise fun e e' => e.1 < e'.1 ∧ e.2.1 < e'.2.1
  dj : ∀ e ∈ E, Disj e.2.2
theorem take_filter {f wet : Int} {E : List Ev} {i : Nat} {e : Ev} (hw : Win f wet E) (hi : E[i]? = some e) (hl : E.Pairwise fun e e' => e.1 < e'.1 ∧ e.2.1 < e'.2.1) : (E.take (i + 1)).Sublist (E.filter (bCond f wet e.2.1)) := by
  have h1 : (E.take (i + 1)).filter (bCond f wet e.2.1) = E.take (i + 1) := by
    rw [List.filter_eq_self]
    intro d hd
    have hdE := List.mem_of_mem_take hd
    have hwd := hw d hdE
    refine decide_eq_true ⟨⟨hwd.1, ?_⟩, hwd.2⟩
    obtain ⟨j, hj, ej⟩ := List.getElem_of_mem hd
    rw [List.length_take] at hj
    rw [List.getElem_take] at ej
    obtain ⟨hi', ei⟩ := List.getElem?_eq_some_iff.mp hi
    by_cases h : j = i
    · subst h
      rw [← ej, ei]; exact Int.le_refl _
    · have := (List.pairwise_iff_getElem.mp hl) j i (by omega) hi' (by omega)
      rw [ej, ei] at this
      omega
  rw [← h1]
  exact (List.take_sublist _ _).filter _
theorem bestIs {f wet : Int} (h0 : 0 < wet) {E : List Ev} (hw : Win f wet E) (hl : E.Pairwise fun e e' => e.1 < e'.1 ∧ e.2.1 < e'.2.1) (x y : T3) : BestIs f wet x y E := by
  intro v hv
  rw [best_iff]
  by_cases hne : x = y
  · rw [hne]; exact Rch.refl _ _
  · obtain ⟨i, e, h1, h2, h3⟩ := roads_val hne E hw v hv
    rw [h2]
    have hs := take_filter hw h1 hl
    have h4 := h3.2
    rw [prs_take] at h4
    exact h4.sub (hs.map _)
theorem roadM_iff {f wet : Int} (h0 : 0 < wet) {E : List Ev} (hw : Win f wet E) (hl : E.Pairwise fun e e' => e.1 < e'.1 ∧ e.2.1 < e'.2.1) (x y : T3) : (roadM f wet x y E).isSome = true ↔ Rch (prs E) x y := by
  unfold roadM
  by_cases hne : x = y
  · rw [if_pos hne]
    simp only [Option.isSome_some, true_iff]
    rw [hne]; exact Rch.refl _ _
  · rw [if_neg hne, ← roads_iff y E hw]
    unfold bestOf
    cases q : aget (roadsM f wet x E) y with
    | none => simp
    | some v =>
      simp only [Option.isSome_some, iff_true]
      exact bestIs h0 hw hl x y v q
theorem roadM_path {f wet : Int} {E : List Ev} {x y : T3} (hne : x ≠ y) {rd : List Nat} (h : roadM f wet x y E = some rd) : PathE E rd x y := by
  unfold roadM bestOf at h
  rw [if_neg hne] at h
  cases q : aget (roadsM f wet x E) y with
  | none => rw [q] at h; cases h
  | some v =>
    rw [q] at h
    exact best_path E y rd h
/-- a road turned about -/
theorem PathE.rev {n : Nat} {T : Int} : ∀ (E : List Ev) (rd : List Nat) (x y : T3), (∀ e ∈ E, Disj e.2.2) → PathE E rd x y → PathE (E.reverse.map (flipE n T)) (rd.reverse.map fun a => n - 1 - a) y x
  | [], rd, x, y, _, ⟨h1, h2⟩ => ⟨by rw [h1]; rfl, h2.symm⟩
  | e :: E, rd, x, y, hd, h => by
    rw [List.reverse_cons, List.map_append, List.map_cons, List.map_nil, PathE.snoc]
    rcases h with h | ⟨z, rd', h1, h2, h3⟩
    · exact .inl (PathE.rev E rd x y (fun q hq => hd q (List.mem_cons_of_mem _ hq)) h)
    · refine .inr ⟨z, rd'.reverse.map fun a => n - 1 - a, by rw [h1]; simp [flipE], PathE.rev E rd' z y (fun q hq => hd q (List.mem_cons_of_mem _ hq)) h3, part_inv (hd e List.mem_cons_self) h2⟩
theorem PathE.ats : ∀ (E : List Ev) (rd : List Nat) (x y : T3), PathE E rd x y → ∀ a ∈ rd, ∃ e ∈ E, e.1 = a
  | [], rd, x, y, ⟨h1, _⟩, a, ha => by rw [h1] at ha; cases ha
  | e :: E, rd, x, y, h, a, ha => by
    rcases h with h | ⟨z, rd', h1, h2, h3⟩
    · obtain ⟨d, hd, q⟩ := PathE.ats E rd x y h a ha
      exact ⟨d, List.mem_cons_of_mem _ hd, q⟩
    · rw [h1] at ha
      rcases List.mem_cons.mp ha with ha | ha
      · exact ⟨e, List.mem_cons_self, ha.symm⟩
      · obtain ⟨d, hd, q⟩ := PathE.ats E rd' z y h3 a ha
        exact ⟨d, List.mem_cons_of_mem _ hd, q⟩
theorem PathE.lt : ∀ (E : List Ev) (rd : List Nat) (x y : T3), (E.Pairwise fun e e' => e.1 < e'.1 ∧ e.2.1 < e'.2.1) → PathE E rd x y → rd.Pairwise (· < ·)
  | [], rd, x, y, _, ⟨h1, _⟩ => by rw [h1]; exact List.Pairwise.nil
  | e :: E, rd, x, y, hl, h => by
    rw [List.pairwise_cons] at hl
    rcases h with h | ⟨z, rd', h1, h2, h3⟩
    · exact PathE.lt E rd x y hl.2 h
    · rw [h1, List.pairwise_cons]
      refine ⟨fun a ha => ?_, PathE.lt E rd' z y hl.2 h3⟩
      obtain ⟨d, hd, q⟩ := PathE.ats E rd' z y h3 a ha
      rw [← q]; exact (hl.1 d hd).1
theorem riseB_of : ∀ l : List Int, l.Pairwise (· < ·) → riseB l = true
  | [], _ => rfl
  | [a], _ => rfl
  | a :: b :: l, h => by
    rw [List.pairwise_cons] at h
    have ih := riseB_of (b :: l) h.2
    unfold riseB at ih ⊢
    simp only [List.drop_succ_cons, List.drop_zero, List.zip_cons_cons, List.all_cons, Bool.and_eq_true, decide_eq_true_eq] at ih ⊢
    exact ⟨h.1 b List.mem_cons_self, ih⟩
theorem known_get (E : List Ev) : (E.Pairwise fun e e' => e.1 < e'.1 ∧ e.2.1 < e'.2.1) → ∀ e ∈ E, aget (knownM E) (e.1 : Int) = some (e.2.1, e.2.2) := by
  refine snoc_ind (P := fun E => (E.Pairwise fun e e' => e.1 < e'.1 ∧ e.2.1 < e'.2.1) → ∀ e ∈ E, aget (knownM E) (e.1 : Int) = some (e.2.1, e.2.2)) (fun _ e he => nomatch he) (fun E d ih hl e he => ?_) E
  have hs : knownM (E ++ [d]) = aput (knownM E) (d.1 : Int) (d.2.1, d.2.2) := by simp [knownM]
  rw [hs, aget_put]
  rw [List.pairwise_append] at hl
  rcases List.mem_append.mp he with he | he
  · have := (hl.2.2 e he d (by simp)).1
    rw [if_neg (by omega)]
    exact ih hl.1 e he
  · have : e = d := by simpa using he
    rw [this, if_pos rfl]
theorem walk_path {kn : List (Int × Kn)} {f wet : Int} : ∀ (E : List Ev) (rd : List Nat) (x y : T3), (∀ e ∈ E, aget kn (e.1 : Int) = some (e.2.1, e.2.2)) → Win f wet E → PathE E rd x y → walkM kn f wet (rd.map fun (a : Nat) => (a : Int)) x = some y
  | [], rd, x, y, _, _, ⟨h1, h2⟩ => by rw [h1, h2]; rfl
  | e :: E, rd, x, y, hk, hw, h => by
    have hk' : ∀ e ∈ E, aget kn (e.1 : Int) = some (e.2.1, e.2.2) := fun d hd => hk d (List.mem_cons_of_mem _ hd)
    have hw' : Win f wet E := fun d hd => hw d (List.mem_cons_of_mem _ hd)
    rcases h with h | ⟨z, rd', h1, h2, h3⟩
    · exact walk_path E rd x y hk' hw' h
    · rw [h1, List.map_cons, walkM, hk e List.mem_cons_self]
      simp only
      rw [if_pos (hw e List.mem_cons_self), h2]
      exact walk_path E rd' z y hk' hw' h3
theorem isRoad_of {f wet : Int} {E : List Ev} {n : Nat} {T : Int} (H : Evs E n T) (hw : Win f wet E) {rd : List Nat} {x y : T3} (h : PathE E rd x y) : isRoadM n f wet x y E (rd.map fun (a : Nat) => (a : Int)) = true := by
  unfold isRoadM
  rw [walk_path E rd x y (known_get E H.lt) hw h]
  have h1 : ((rd.map fun (a : Nat) => (a : Int)).all fun a => decide (0 ≤ a) && decide (a ≤ (n : Int) - 1)) = true := by
    rw [List.all_eq_true]
    intro a ha
    obtain ⟨b, hb, rfl⟩ := List.mem_map.mp ha
    obtain ⟨e, he, q⟩ := PathE.ats E rd x y h b hb
    have := H.at_ e he
    simp only [Bool.and_eq_true, decide_eq_true_eq]
    omega
  have h2 : riseB (rd.map fun (a : Nat) => (a : Int)) = true := by
    refine riseB_of _ ?_
    rw [List.pairwise_map]
    exact (PathE.lt E rd x y H.lt h).imp fun h => by omega
  rw [h1, h2]
  simp
/-! ### the last tick -/
theorem lastPut_get (t : Int) (m : List (T3 × Option Int)) (a b y : T3) : aget (lastPut t m a b) y = if y = a ∧ (aget m b).isSome = true ∧ aget m a = none then some (some t) else aget m y := by
  unfold lastPut
  by_cases h : (aget m b).isSome = true ∧ aget m a = none
  · rw [if_pos h, aget_put]
    by_cases e : a = y
    · rw [if_pos e, if_pos ⟨e.symm, h⟩]
    · rw [if_neg e, if_neg (fun z => e z.1.symm)]
  · rw [if_neg h, if_neg (fun z => h z.2)]
theorem part_none {ps : List Pr} {y : T3} : ∀ (h : y ∉ ps.map (·.1) ++ ps.map (·.2)), partM ps y = none := by
  induction ps with
  | nil => exact fun _ => rfl
  | cons p ps ih =>
    obtain ⟨a, b⟩ := p
    intro h
    simp only [List.map_cons, List.cons_append, List.mem_cons, List.mem_append, not_or] at h
    rw [show partM ((a, b) :: ps) y = (if y = a then some b else if y = b then some a else partM ps y) from rfl, if_neg h.1, if_neg h.2.2.1]
    exact ih (by simp only [List.mem_append, not_or]; exact ⟨h.2.1, h.2.2.2⟩)
theorem part_mem2 {ps : List Pr} {x y : T3} (h : partM ps x = some y) : y ∈ ps.map (·.1) ++ ps.map (·.2) := by
  obtain ⟨p, hp, z⟩ := partM_mem h
  rcases z with ⟨_, rfl⟩ | ⟨_, rfl⟩
  · exact List.mem_append_right _ (List.mem_map_of_mem (f := fun p : Pr => p.2) hp)
  · exact List.mem_append_left _ (List.mem_map_of_mem (f := fun p : Pr => p.1) hp)
theorem lastF_get (t : Int) : ∀ (ps : List Pr) (m : List (T3 × Option Int)), Disj ps → ∀ y, aget (ps.foldl (fun m p => lastPut t (lastPut t m p.1 p.2) p.2 p.1) m) y = if (aget m y).isSome = true then aget m y else match partM ps y with
    | some h => if (aget m h).isSome = true then some (some t) else none
    | none => none
  | [], m, _, y => by
    cases q : aget m y <;> simp [partM, q]
  | (a, b) :: ps, m, hd, y => by
    have h := hd
    unfold Disj at h
    simp only [List.map_cons, List.cons_append, List.nodup_cons, List.mem_append, List.mem_cons] at h
    have h1 := (List.nodup_append.mp h.2).1
    have h2 := (List.nodup_append.mp h.2).2.1
    have h3 := (List.nodup_append.mp h.2).2.2
    rw [List.nodup_cons] at h2
    have hab : a ≠ b := fun e => h.1 (.inr (.inl e))
    have hr : Disj ps := List.nodup_append.mpr ⟨h1, h2.2, fun p hp q hq => h3 p hp q (List.mem_cons_of_mem _ hq)⟩
    have na : a ∉ ps.map (·.1) ++ ps.map (·.2) := by
      simp only [List.mem_append, not_or]
      exact ⟨fun z => h.1 (.inl z), fun z => h.1 (.inr (.inr z))⟩
    have nb : b ∉ ps.map (·.1) ++ ps.map (·.2) := by
      simp only [List.mem_append, not_or]
      exact ⟨fun z => h3 b z b List.mem_cons_self rfl, h2.1⟩
    rw [List.foldl_cons, lastF_get t ps _ hr y]
    simp only
    have ga : aget (lastPut t (lastPut t m a b) b a) a = if (aget m a).isSome = true then aget m a else if (aget m b).isSome = true then some (some t) else none := by
      rw [lastPut_get, if_neg (fun z => hab z.1), lastPut_get]
      cases q : aget m a with
      | some v => simp
      | none =>
        by_cases q2 : (aget m b).isSome = true
        · simp [q2]
        · simp [q2]
    have gb : aget (lastPut t (lastPut t m a b) b a) b = if (aget m b).isSome = true then aget m b else if (aget m a).isSome = true then some (some t) else none := by
      have e1 : aget (lastPut t m a b) b = aget m b := by rw [lastPut_get, if_neg (fun z => hab z.1.symm)]
      rw [lastPut_get, e1]
      cases q : aget m b with
      | some v => simp
      | none =>
        have e2 : aget (lastPut t m a b) a = aget m a := by rw [lastPut_get, if_neg (fun z => by rw [q] at z; exact absurd z.2.1 (by decide))]
        rw [e2]
        by_cases q2 : (aget m a).isSome = true
        · simp [q2]
        · simp [q2]
    have go : ∀ z, z ≠ a → z ≠ b → aget (lastPut t (lastPut t m a b) b a) z = aget m z := fun z z1 z2 => by
      rw [lastPut_get, if_neg (fun e => z2 e.1), lastPut_get, if_neg (fun e => z1 e.1)]
    rw [show partM ((a, b) :: ps) y = (if y = a then some b else if y = b then some a else partM ps y) from rfl]
    by_cases e1 : y = a
    · subst e1
      rw [if_pos rfl, part_none na, ga]
      simp only
      cases q : aget m y with
      | some v => simp
      | none => by_cases q2 : (aget m b).isSome = true <;> simp [q2]
    · by_cases e2 : y = b
      · subst e2
        rw [if_neg e1, if_pos rfl, part_none nb, gb]
        simp only
        cases q : aget m y with
        | some v => simp
        | none => by_cases q2 : (aget m a).isSome = true <;> simp [q2]
      · rw [if_neg e1, if_neg e2, go y e1 e2]
        cases q : partM ps y with
        | none => rfl
        | some u =>
          have hu := part_mem2 q
          simp only
          rw [go u (fun e => na (by rw [← e]; exact hu)) (fun e => nb (by rw [← e]; exact hu))]
def lastR (g : T3) (E : List Ev) : List (T3 × Option Int) := E.foldl lastStep [(g, none)]
theorem last_snoc (g : T3) (E : List Ev) (e : Ev) : lastR g (E ++ [e]) = e.2.2.foldl (fun m p => lastPut e.2.1 (lastPut e.2.1 m p.1 p.2) p.2 p.1) (lastR g E) := by
  unfold lastR; rw [List.foldl_append]; rfl
theorem last_iff {g : T3} (E : List Ev) : (∀ e ∈ E, Disj e.2.2) → ∀ y, (aget (lastR g E) y).isSome = true ↔ Rch (prs E) g y := by
  refine snoc_ind (P := fun E => (∀ e ∈ E, Disj e.2.2) → ∀ y, (aget (lastR g E) y).isSome = true ↔ Rch (prs E) g y) (fun _ y => ?_) (fun E e ih hd y => ?_) E
  · show (aget [(g, (none : Option Int))] y).isSome = true ↔ g = y
    unfold aget aget
    by_cases h : g = y <;> simp [h]
  · have hd' : ∀ e ∈ E, Disj e.2.2 := fun d hd2 => hd d (List.mem_append_left _ hd2)
    have hde := hd e (by simp)
    rw [last_snoc, prs_snoc, Rch.snoc, lastF_get _ _ _ hde, ← ih hd' y]
    cases q : aget (lastR g E) y with
    | some v => simp
    | none =>
      simp only [Option.isSome_none, Bool.false_eq_true, if_false, false_or]
      constructor
      · intro h
        cases q2 : partM e.2.2 y with
        | none => rw [q2] at h; cases h
        | some u =>
          rw [q2] at h
          simp only at h
          by_cases q3 : (aget (lastR g E) u).isSome = true
          · exact ⟨u, (ih hd' u).mp q3, part_inv hde q2⟩
          · rw [if_neg q3] at h; cases h
      · rintro ⟨u, h1, h2⟩
        rw [part_inv hde h2]
        simp only
        rw [if_pos ((ih hd' u).mpr h1)]; rfl
theorem last_val {g y : T3} (hne : g ≠ y) (E : List Ev) : (∀ e ∈ E, Disj e.2.2) → ∀ v, aget (lastR g E) y = some v → ∃ i e, E[i]? = some e ∧ v = some e.2.1 ∧ FirstAt (prs E) g y i := by
  refine snoc_ind (P := fun E => (∀ e ∈ E, Disj e.2.2) → ∀ v, aget (lastR g E) y = some v → ∃ i e, E[i]? = some e ∧ v = some e.2.1 ∧ FirstAt (prs E) g y i) (fun _ v h => ?_) (fun E e ih hd v h => ?_) E
  · have h : aget [(g, (none : Option Int))] y = some v := h
    unfold aget aget at h
    rw [if_neg hne] at h; cases h
  · have hd' : ∀ e ∈ E, Disj e.2.2 := fun d hd2 => hd d (List.mem_append_left _ hd2)
    have hde := hd e (by simp)
    have hs : (aget (lastR g (E ++ [e])) y).isSome = true := by rw [h]; rfl
    rw [last_snoc, lastF_get _ _ _ hde] at h
    cases q : aget (lastR g E) y with
    | some v' =>
      rw [q] at h
      simp only [Option.isSome_some, if_true] at h
      cases h
      obtain ⟨i, e', h1, h2, h3, h4⟩ := ih hd' v q
      have hi := (List.getElem?_eq_some_iff.mp h1).1
      have hl : (prs E).length = E.length := by simp [prs]
      refine ⟨i, e', by rw [List.getElem?_append_left hi]; exact h1, h2, ?_⟩
      unfold FirstAt
      rw [prs_snoc, List.take_append_of_le_length (by omega), List.take_append_of_le_length (by omega)]
      exact ⟨h3, h4⟩
    | none =>
      have hr : ¬ Rch (prs E) g y := fun z => by
        have := (last_iff E hd' y).mpr z
        rw [q] at this; cases this
      have hr2 := (last_iff (E ++ [e]) hd y).mp hs
      rw [q] at h
      simp only [Option.isSome_none, Bool.false_eq_true, if_false] at h
      refine ⟨E.length, e, by simp, ?_, ?_⟩
      · cases q2 : partM e.2.2 y with
        | none => rw [q2] at h; cases h
        | some u =>
          rw [q2] at h
          simp only at h
          split at h
          · exact (Option.some.inj h).symm
          · cases h
      · unfold FirstAt
        have hl : (prs E).length = E.length := by simp [prs]
        rw [prs_snoc, List.take_append_of_le_length (by omega), ← hl, List.take_length]
        refine ⟨hr, ?_⟩
        rw [List.take_of_length_le (by simp)]
        rw [← prs_snoc]; exact hr2
theorem prs_flip (n : Nat) (T : Int) (E : List Ev) : prs (E.map (flipE n T)) = prs E := by simp [prs, flipE]
/-- the last tick and the least wet add up -/
theorem last_wet {E : List Ev} {n : Nat} {T : Int} (H : Evs E n T) {x g : T3} (hne : x ≠ g) (hr : Rch (prs E) x g) : ∃ a b, lastOf x g T E = some a ∧ wetM 0 g x T (E.reverse.map (flipE n T)) = some b ∧ a + b = T := by
  have hd : ∀ e ∈ E.reverse, Disj e.2.2 := fun e he => H.dj e (List.mem_reverse.mp he)
  have hrr : Rch (prs E.reverse) g x := by
    have := Rch.rev (prs E) x g (fun p hp => by
      obtain ⟨e, he, rfl⟩ := List.mem_map.mp hp
      exact H.dj e he) hr
    rw [show (prs E).reverse = prs E.reverse by simp [prs]] at this
    exact this
  obtain ⟨v, hv⟩ := Option.isSome_iff_exists.mp ((last_iff E.reverse hd x).mpr hrr)
  obtain ⟨i, e, h1, h2, h3⟩ := last_val (Ne.symm hne) E.reverse hd v hv
  have hw : Win 0 (T + 1) (E.reverse.map (flipE n T)) := fun d hd => by
    obtain ⟨c, hc, rfl⟩ := List.mem_map.mp hd
    have := H.tk c (List.mem_reverse.mp hc)
    unfold flipE
    simp only
    omega
  have hs : (aget (roadsM 0 (T + 1) g (E.reverse.map (flipE n T))) x).isSome = true := by
    rw [roads_iff x _ hw, prs_flip]; exact hrr
  obtain ⟨u, hu⟩ := Option.isSome_iff_exists.mp hs
  obtain ⟨j, d, h4, h5, h6⟩ := roads_val (Ne.symm hne) _ hw u hu
  rw [prs_flip] at h6
  have hij := first_uniq h3 h6
  subst hij
  rw [List.getElem?_map, h1] at h4
  have h4 : flipE n T e = d := Option.some.inj h4
  refine ⟨e.2.1, u.1 - 0 + 1, ?_, ?_, ?_⟩
  · unfold lastOf
    rw [if_neg hne]
    have : lastM g E = lastR g E.reverse := rfl
    rw [this, hv, h2]; rfl
  · unfold wetM
    rw [if_neg (Ne.symm hne), hu]; rfl
  · rw [h5, ← h4]
    unfold flipE
    simp only
    omega
end BB
set_option maxRecDepth 100000
set_option maxHeartbeats 1000000
namespace BB
open PySem PySem.Spec PyProof.Rows L2
local macro_rules | `(tactic| walk_at "d") => `(tactic| simp only [ap_var, ap_c, ap_op, ap_b, ap_chain, ap_isN, ap_notN, ap_not, ap_and, ap_or, ap_notV, ap_andV, ap_orV, ap_if, ap_nil, ap_cons, ap_tup, ap_lst, ap_newL, ap_call, ap_bt, ap_bm, ap_sl, ap_no, ap_some, ap_rev, ap_frz, ap_get2, ap_oneT, ap_newT, ap_newS, ap_dictNew, ap_isi, ap_gset, ap_gend, ap_gmore, ap_gtup, ap_gtup3, ap_gsub, ap_next, ap_seq, ap_drop, ap_ret, ap_retN, ap_brk, ap_cont, ap_ifS, ap_asg, ap_par, ap_par3, ap_aug, ap_onx, ap_ort, ap_it, ap_enum, ap_items, ap_rg1, ap_rg2, ap_zip, ap_eq, ap_ne, ap_i2, ap_arI, ap_addI, ap_addT, ap_addL, ap_ixT, ap_ixL, ap_ix3, ap_wlen, ap_wtup, ap_btN, ap_isiA, ap_callK, ap_callX, ap_lstRg, ap_ixMk, ap_min2, ap_max2, ap_ixDr, ap_gtupDr2, ap_gtupE, ex_at0, ex_at1, ex_at2, ex_bl, ex_int, ex_sli, ex_som, ex_ptr, ex_l1i, ex_l1l, al_l1i, ex_one,
  List.getElem?_cons_zero, List.getElem?_cons_succ, List.set_cons_zero, List.set_cons_succ, List.length_cons, List.length_nil, deq_int, deq_str, deq_e3, vw_e3, vw_i, vw_t, vw_l, vw_s, vw_n, vw_b, true_and, and_true, sh_i64, sh_n64, List.nil_append, List.cons_append, isN_n, isN_i, isN_t, isN_l, isN_b, isN_p, isNon_e3, Bool.not_false, Bool.not_true, if_true, if_false, Bool.false_eq_true, decide_eq_true_eq, ite_true, ite_false, Bool.not_eq_true', decide_eq_false_iff_not, vw_sh, vw_st, ap_ixSh, ap_ixD, ap_ixSt, sh_t3, ap_gtupD, vw_eD, wipeD, reduceIte, Bool.true_eq_false])
structure LawRow (L C : Nat) (s : Stand) (r : List Deed) : Prop where
  st : OkSt L s
  row : ∀ d ∈ r, OkD L d
  len : r.length ≤ 30
  hL : L ≤ 5
  hC : C ≤ 3
theorem ticks_le : ∀ r : List Deed, (∀ d ∈ r, takesM d ≤ 9) → ticksM r ≤ 9 * r.length
  | [], _ => by simp [ticksM]
  | d :: r, h => by
    rw [ticksM_cons, List.length_cons]
    have := ticks_le r fun d' hd => h d' (List.mem_cons_of_mem _ hd)
    have := h d List.mem_cons_self
    omega
section
variable {L C : Nat} {s : Stand} {r : List Deed}
theorem LawRow.back (h : LawRow L C s r) : LawRow L C (behindM s r) r.reverse := ⟨h.st.behind, fun d hd => h.row d (List.mem_reverse.mp hd), by rw [List.length_reverse]; exact h.len, h.hL, h.hC⟩
theorem LawRow.okd (h : LawRow L C s r) : ∀ d ∈ r, okDeed s.length d := fun d hd => by rw [h.st.len]; exact (h.row d hd).ok
theorem LawRow.ok (h : LawRow L C s r) : OkAll C s r := ⟨h.st.stand (by have := h.hL; omega), h.okd, by have := h.len; omega, by have := h.hC; omega⟩
theorem LawRow.box (h : LawRow L C s r) : InBox (evsOf C s r) := fun e he => (press_pairs (by have := h.hC; omega) (by have := h.hL; omega) r s 0 0 h.st h.row e he).2
theorem LawRow.evs (h : LawRow L C s r) : Evs (evsOf C s r) r.length (ticksM r) := by
  obtain ⟨h1, h2⟩ := press_at C r s 0 0 fun d hd => (h.row d hd).lo
  refine ⟨fun e he => ?_, fun e he => ?_, h2, fun e he => (press_pairs (by have := h.hC; omega) (by have := h.hL; omega) r s 0 0 h.st h.row e he).1⟩
  · have := h1 e he; omega
  · have := h1 e he; omega
theorem LawRow.win (h : LawRow L C s r) : Win 0 400 (evsOf C s r) := fun e he => by
  have h1 := h.evs.tk e he
  have h2 := ticks_le r fun d hd => (h.row d hd).hi
  have := h.len
  omega
theorem LawRow.bestIs (h : LawRow L C s r) (x g : T3) : BestIs 0 400 x g (evsOf C s r) := BB.bestIs (by decide) h.win h.evs.lt x g
theorem LawRow.flip (h : LawRow L C s r) : evsOf C (behindM s r) r.reverse = (evsOf C s r).reverse.map (flipE r.length (ticksM r)) := evs_rev C r s h.okd
theorem LawRow.inv (h : LawRow L C s r) : behindM (behindM s r) r.reverse = s := behindM_inv r s h.okd
end
end BB
set_option maxRecDepth 100000
set_option maxHeartbeats 1000000
namespace BB
open PySem PySem.Spec PyProof.Rows L2
local macro_rules | `(tactic| walk_at "d") => `(tactic| simp only [ap_var, ap_c, ap_op, ap_b, ap_chain, ap_isN, ap_notN, ap_not, ap_and, ap_or, ap_notV, ap_andV, ap_orV, ap_if, ap_nil, ap_cons, ap_tup, ap_lst, ap_newL, ap_call, ap_bt, ap_bm, ap_sl, ap_no, ap_some, ap_rev, ap_frz, ap_get2, ap_oneT, ap_newT, ap_newS, ap_dictNew, ap_isi, ap_gset, ap_gend, ap_gmore, ap_gtup, ap_gtup3, ap_gsub, ap_next, ap_seq, ap_drop, ap_ret, ap_retN, ap_brk, ap_cont, ap_ifS, ap_asg, ap_par, ap_par3, ap_aug, ap_onx, ap_ort, ap_it, ap_enum, ap_items, ap_rg1, ap_rg2, ap_zip, ap_eq, ap_ne, ap_i2, ap_arI, ap_addI, ap_addT, ap_addL, ap_ixT, ap_ixL, ap_ix3, ap_wlen, ap_wtup, ap_btN, ap_isiA, ap_callK, ap_callX, ap_lstRg, ap_ixMk, ap_min2, ap_max2, ap_ixDr, ap_gtupDr2, ap_gtupE, ex_at0, ex_at1, ex_at2, ex_bl, ex_int, ex_sli, ex_som, ex_ptr, ex_l1i, ex_l1l, al_l1i, ex_one,
  List.getElem?_cons_zero, List.getElem?_cons_succ, List.set_cons_zero, List.set_cons_succ, List.length_cons, List.length_nil, deq_int, deq_str, deq_e3, vw_e3, vw_i, vw_t, vw_l, vw_s, vw_n, vw_b, true_and, and_true, sh_i64, sh_n64, List.nil_append, List.cons_append, isN_n, isN_i, isN_t, isN_l, isN_b, isN_p, isNon_e3, Bool.not_false, Bool.not_true, if_true, if_false, Bool.false_eq_true, decide_eq_true_eq, ite_true, ite_false, Bool.not_eq_true', decide_eq_false_iff_not, vw_sh, vw_st, ap_ixSh, ap_ixD, ap_ixSt, sh_t3, ap_gtupD, vw_eD, wipeD, reduceIte, Bool.true_eq_false])
/-! ### one book seen otherwise: what is pointwise -/
/-- the drying ticks of one that is wet at t -/
def wl (t : Int) : Option Mk2 → List Int
  | some v => if t < v.2 then [v.2] else []
  | none => []
def jn (o : Option Mk2) (s d : Int) : Mk2 := match o with
  | some v => (min v.1 s, max v.2 d)
  | none => (s, d)
def pvM (t : Int) (a b : Option Mk2) : Option Mk2 := if wl t a ++ wl t b = [] then a else some (jn a t (maxI (wl t a ++ wl t b)))
theorem putM_jn (m : Found) (x y : T3) (s d : Int) : aget (putM m x s d) y = if x = y then some (jn (aget m x) s d) else aget m y := by
  rw [putM_get]
  cases aget m x <;> rfl
theorem wets_wl (t : Int) (m : Found) (p : Pr) : wets t m p = wl t (aget m p.1) ++ wl t (aget m p.2) := by
  unfold wets wl
  cases h1 : aget m p.1 <;> cases h2 : aget m p.2 <;> simp [h1, h2, List.filter_cons]
  · rename_i v
    by_cases e : t < v.2 <;> simp [e, h2]
  · rename_i v
    by_cases e : t < v.2 <;> simp [e, h1]
  · rename_i v w
    by_cases e : t < v.2 <;> by_cases e' : t < w.2 <;> simp [e, e', h1, h2]
theorem wl_sym (t : Int) (a b : Option Mk2) : maxI (wl t a ++ wl t b) = maxI (wl t b ++ wl t a) := by
  unfold wl
  cases a <;> cases b <;> simp
  rename_i v w
  by_cases e : t < v.2 <;> by_cases e' : t < w.2 <;> simp [e, e', maxI]
  omega
theorem wl_nil (t : Int) (a b : Option Mk2) : wl t a ++ wl t b = [] ↔ wl t b ++ wl t a = [] := by
  simp only [List.append_eq_nil_iff]
  exact And.comm
theorem pressOne_get {m : Found} {t : Int} {p : Pr} (hne : p.1 ≠ p.2) (y : T3) : aget (pressOne t m p) y = if y = p.1 then pvM t (aget m p.1) (aget m p.2) else if y = p.2 then pvM t (aget m p.2) (aget m p.1) else aget m y := by
  unfold pressOne
  rw [wets_wl]
  unfold pvM
  by_cases e : wl t (aget m p.1) ++ wl t (aget m p.2) = []
  · rw [if_pos e, if_pos ((wl_nil _ _ _).mp e)]
    by_cases h1 : y = p.1
    · rw [if_pos h1, if_pos e, h1]
    · rw [if_neg h1]
      by_cases h2 : y = p.2
      · rw [if_pos h2, h2]
      · rw [if_neg h2]
  · rw [if_neg e, if_neg (fun z => e ((wl_nil _ _ _).mp z)), if_neg e, putM_jn, putM_jn]
    by_cases h1 : y = p.1
    · rw [if_pos h1, if_neg (fun z => hne (h1.symm.trans z.symm)), putM_jn, h1, if_pos rfl]
    · rw [if_neg h1]
      by_cases h2 : y = p.2
      · rw [if_pos h2, if_pos h2.symm, if_neg hne, wl_sym]
      · rw [if_neg h2, if_neg (fun z => h2 z.symm), putM_jn, if_neg (fun z => h1 z.symm)]
theorem pressAll_get (t : Int) : ∀ (ps : List Pr) (m : Found), Disj ps → ∀ y, aget (pressAll t m ps) y = match partM ps y with
    | some z => pvM t (aget m y) (aget m z)
    | none => aget m y
  | [], m, _, y => rfl
  | p :: ps, m, hd, y => by
    have h := hd
    unfold Disj at h
    simp only [List.map_cons, List.cons_append, List.nodup_cons, List.mem_append, List.mem_cons] at h
    have h1 := (List.nodup_append.mp h.2).1
    have h2 := (List.nodup_append.mp h.2).2.1
    have h3 := (List.nodup_append.mp h.2).2.2
    rw [List.nodup_cons] at h2
    have hab : p.1 ≠ p.2 := fun e => h.1 (.inr (.inl e))
    have hr : Disj ps := List.nodup_append.mpr ⟨h1, h2.2, fun p hp q hq => h3 p hp q (List.mem_cons_of_mem _ hq)⟩
    have ha : p.1 ∉ ps.map (·.1) ++ ps.map (·.2) := fun z => by
      rcases List.mem_append.mp z with z | z
      · exact h.1 (.inl z)
      · exact h.1 (.inr (.inr z))
    have hb : p.2 ∉ ps.map (·.1) ++ ps.map (·.2) := fun z => by
      rcases List.mem_append.mp z with z | z
      · exact h3 p.2 z p.2 List.mem_cons_self rfl
      · exact h2.1 z
    show aget (pressAll t (pressOne t m p) ps) y = _
    rw [pressAll_get t ps _ hr y, show partM (p :: ps) y = (if y = p.1 then some p.2 else if y = p.2 then some p.1 else partM ps y) from rfl]
    by_cases e1 : y = p.1
    · rw [if_pos e1, e1, part_none ha]
      simp only
      rw [pressOne_get hab, if_pos rfl]
    · rw [if_neg e1]
      by_cases e2 : y = p.2
      · rw [if_pos e2, e2, part_none hb]
        simp only
        rw [pressOne_get hab, if_neg (Ne.symm hab), if_pos rfl]
      · rw [if_neg e2, pressOne_get hab, if_neg e1, if_neg e2]
        cases q : partM ps y with
        | none => rfl
        | some z =>
          have hz := part_mem2 q
          have z1 : z ≠ p.1 := fun e => ha (e ▸ hz)
          have z2 : z ≠ p.2 := fun e => hb (e ▸ hz)
          simp only
          rw [pressOne_get hab, if_neg z1, if_neg z2]
/-! ### roads -/
theorem roadF_get {ev : Ev} (hd : Disj ev.2.2) {m : List (T3 × Rv)} (y : T3) : ∀ (l m' : List (T3 × Rv)), (l.map (·.1)).Nodup → aget (l.foldl (roadIn ev m) m') y = if aget m y = none then (match partM ev.2.2 y with
    | some z => (match aget l z with
      | some v => some (ev.2.1, v.2.1 + 1, v.2.2 ++ [ev.1])
      | none => aget m' y)
    | none => aget m' y) else aget m' y
  | [], m', _ => by
    rw [List.foldl_nil]
    split
    · cases partM ev.2.2 y <;> rfl
    · rfl
  | p :: l, m', hn => by
    rw [List.map_cons, List.nodup_cons] at hn
    rw [List.foldl_cons, roadF_get hd y l _ hn.2, roadIn_get]
    by_cases h0 : aget m y = none
    · simp only [h0, and_true, if_true]
      cases q : partM ev.2.2 y with
      | none =>
        simp only
        rw [if_neg (fun z => by rw [part_inv hd z] at q; cases q)]
      | some z =>
        simp only
        rw [show aget (p :: l) z = if p.1 = z then some p.2 else aget l z from rfl]
        by_cases e : p.1 = z
        · have q' : partM ev.2.2 p.1 = some y := by rw [e]; exact part_inv hd q
          have hl : aget l z = none := aget_none.mpr (e ▸ hn.1)
          rw [if_pos e, hl, if_pos q']
        · rw [if_neg e, if_neg (fun w => by rw [part_inv hd w] at q; exact e (Option.some.inj q))]
    · simp only [h0, and_false, if_false]
theorem roadF_nd {ev : Ev} {m : List (T3 × Rv)} : ∀ (l m' : List (T3 × Rv)), (m'.map (·.1)).Nodup → ((l.foldl (roadIn ev m) m').map (·.1)).Nodup
  | [], m', h => h
  | p :: l, m', h => by
    refine roadF_nd l _ ?_
    unfold roadIn
    cases partM ev.2.2 p.1 with
    | none => exact h
    | some t =>
      simp only
      split
      · exact aput_nodup _ _ _ h
      · exact h
theorem bestF_get {ev : Ev} (hd : Disj ev.2.2) (y : T3) : ∀ (l m' : List (T3 × List Nat)), (l.map (·.1)).Nodup → aget (l.foldl (bestIn ev) m') y = match partM ev.2.2 y with
    | some z => (match aget l z with
      | some v => if betterM (v ++ [ev.1]) (aget m' y) = true then some (v ++ [ev.1]) else aget m' y
      | none => aget m' y)
    | none => aget m' y
  | [], m', _ => by
    rw [List.foldl_nil]
    cases partM ev.2.2 y <;> rfl
  | p :: l, m', hn => by
    rw [List.map_cons, List.nodup_cons] at hn
    rw [List.foldl_cons, bestF_get hd y l _ hn.2, bestIn_get]
    cases q : partM ev.2.2 y with
    | none =>
      simp only
      rw [if_neg (fun z => by rw [part_inv hd z.1] at q; cases q)]
    | some z =>
      simp only
      rw [show aget (p :: l) z = if p.1 = z then some p.2 else aget l z from rfl]
      by_cases e : p.1 = z
      · have q' : partM ev.2.2 p.1 = some y := by rw [e]; exact part_inv hd q
        have hl : aget l z = none := aget_none.mpr (e ▸ hn.1)
        rw [if_pos e, hl]
        simp only [q', true_and]
      · have hne : ¬ (partM ev.2.2 p.1 = some y) := fun w => by rw [part_inv hd w] at q; exact e (Option.some.inj q)
        rw [if_neg e, if_neg (fun w => hne w.1)]
end BB
set_option maxRecDepth 100000
set_option maxHeartbeats 1000000
namespace BB
open PySem PySem.Spec PyProof.Rows L2
local macro_rules | `(tactic| walk_at "d") => `(tactic| simp only [ap_var, ap_c, ap_op, ap_b, ap_chain, ap_isN, ap_notN, ap_not, ap_and, ap_or, ap_notV, ap_andV, ap_orV, ap_if, ap_nil, ap_cons, ap_tup, ap_lst, ap_newL, ap_call, ap_bt, ap_bm, ap_sl, ap_no, ap_some, ap_rev, ap_frz, ap_get2, ap_oneT, ap_newT, ap_newS, ap_dictNew, ap_isi, ap_gset, ap_gend, ap_gmore, ap_gtup, ap_gtup3, ap_gsub, ap_next, ap_seq, ap_drop, ap_ret, ap_retN, ap_brk, ap_cont, ap_ifS, ap_asg, ap_par, ap_par3, ap_aug, ap_onx, ap_ort, ap_it, ap_enum, ap_items, ap_rg1, ap_rg2, ap_zip, ap_eq, ap_ne, ap_i2, ap_arI, ap_addI, ap_addT, ap_addL, ap_ixT, ap_ixL, ap_ix3, ap_wlen, ap_wtup, ap_btN, ap_isiA, ap_callK, ap_callX, ap_lstRg, ap_ixMk, ap_min2, ap_max2, ap_ixDr, ap_gtupDr2, ap_gtupE, ex_at0, ex_at1, ex_at2, ex_bl, ex_int, ex_sli, ex_som, ex_ptr, ex_l1i, ex_l1l, al_l1i, ex_one,
  List.getElem?_cons_zero, List.getElem?_cons_succ, List.set_cons_zero, List.set_cons_succ, List.length_cons, List.length_nil, deq_int, deq_str, deq_e3, vw_e3, vw_i, vw_t, vw_l, vw_s, vw_n, vw_b, true_and, and_true, sh_i64, sh_n64, List.nil_append, List.cons_append, isN_n, isN_i, isN_t, isN_l, isN_b, isN_p, isNon_e3, Bool.not_false, Bool.not_true, if_true, if_false, Bool.false_eq_true, decide_eq_true_eq, ite_true, ite_false, Bool.not_eq_true', decide_eq_false_iff_not, vw_sh, vw_st, ap_ixSh, ap_ixD, ap_ixSt, sh_t3, ap_gtupD, vw_eD, wipeD, reduceIte, Bool.true_eq_false])
structure MSim {β : Type} (σ : T3 → T3) (B : T3 → Prop) (m m' : List (T3 × β)) : Prop where
  get : ∀ x, B x → aget m' (σ x) = aget m x
  ks : ∀ y, (aget m y).isSome = true → B y
  ks' : ∀ y, (aget m' y).isSome = true → ∃ x, B x ∧ y = σ x
def InjB (σ : T3 → T3) (B : T3 → Prop) : Prop := ∀ x y, B x → B y → σ x = σ y → x = y
structure EvS (σ : T3 → T3) (B : T3 → Prop) (e e' : Ev) : Prop where
  at_ : e'.1 = e.1
  tk : e'.2.1 = e.2.1
  dj : Disj e.2.2
  dj' : Disj e'.2.2
  bx : ∀ x y, partM e.2.2 x = some y → B x
  bx' : ∀ x y, partM e'.2.2 x = some y → ∃ z, B z ∧ x = σ z
  part : ∀ x, B x → partM e'.2.2 (σ x) = (partM e.2.2 x).map σ
inductive EvsS (σ : T3 → T3) (B : T3 → Prop) : List Ev → List Ev → Prop
  | nil : EvsS σ B [] []
  | cons {e e' : Ev} {l l' : List Ev} : EvS σ B e e' → EvsS σ B l l' → EvsS σ B (e :: l) (e' :: l')
section
variable {σ : T3 → T3} {B : T3 → Prop}
theorem EvS.by_ {e e' : Ev} (h : EvS σ B e e') {x y : T3} (q : partM e.2.2 x = some y) : B y := h.bx y x (part_inv h.dj q)
theorem EvsS.app {l1 l1' l2 l2' : List Ev} (h1 : EvsS σ B l1 l1') (h2 : EvsS σ B l2 l2') : EvsS σ B (l1 ++ l2) (l1' ++ l2') := by
  induction h1 with
  | nil => exact h2
  | cons h _ ih => exact .cons h ih
theorem EvsS.rev {l l' : List Ev} (h : EvsS σ B l l') : EvsS σ B l.reverse l'.reverse := by
  induction h with
  | nil => exact .nil
  | cons h _ ih =>
    rw [List.reverse_cons, List.reverse_cons]
    exact ih.app (.cons h .nil)
theorem EvsS.fold {γ γ' : Type} {f : γ → Ev → γ} {f' : γ' → Ev → γ'} {R : γ → γ' → Prop} (step : ∀ e e' a a', EvS σ B e e' → R a a' → R (f a e) (f' a' e')) {l l' : List Ev} (h : EvsS σ B l l') : ∀ {a : γ} {a' : γ'}, R a a' → R (l.foldl f a) (l'.foldl f' a') := by
  induction h with
  | nil => exact fun z => z
  | cons h _ ih => exact fun z => ih (step _ _ _ _ h z)
/-! ### last ticks -/
theorem msim_one {β : Type} (inj : InjB σ B) {g : T3} (hg : B g) (v : β) : MSim σ B [(g, v)] [(σ g, v)] := by
  refine ⟨fun x hx => ?_, fun y hy => ?_, fun y hy => ?_⟩
  · show (if σ g = σ x then some v else none) = if g = x then some v else none
    by_cases e : g = x
    · rw [if_pos e, e, if_pos rfl]
    · rw [if_neg e, if_neg fun z => e (inj g x hg hx z)]
  · have hy : (if g = y then some v else none).isSome = true := hy
    by_cases e : g = y
    · rw [← e]; exact hg
    · rw [if_neg e] at hy; cases hy
  · have hy : (if σ g = y then some v else none).isSome = true := hy
    by_cases e : σ g = y
    · exact ⟨g, hg, e.symm⟩
    · rw [if_neg e] at hy; cases hy
theorem last_step {e e' : Ev} (h : EvS σ B e e') {m m' : List (T3 × Option Int)} (s : MSim σ B m m') : MSim σ B (lastStep m e) (lastStep m' e') := by
  have g1 := lastF_get e.2.1 e.2.2 m h.dj
  have g2 := lastF_get e'.2.1 e'.2.2 m' h.dj'
  refine ⟨fun x hx => (g2 (σ x)).trans (Eq.trans ?_ (g1 x).symm), fun y hy => ?_, fun y hy => ?_⟩
  · rw [s.get x hx, h.part x hx, h.tk]
    cases q : partM e.2.2 x with
    | none => rfl
    | some z =>
      simp only [Option.map_some]
      rw [s.get z (h.by_ q)]
  · have hy := (congrArg Option.isSome (g1 y)).symm.trans hy
    by_cases c : (aget m y).isSome = true
    · exact s.ks y c
    · rw [if_neg c] at hy
      cases q : partM e.2.2 y with
      | none => rw [q] at hy; cases hy
      | some z => exact h.bx y z q
  · have hy := (congrArg Option.isSome (g2 y)).symm.trans hy
    by_cases c : (aget m' y).isSome = true
    · exact s.ks' y c
    · rw [if_neg c] at hy
      cases q : partM e'.2.2 y with
      | none => rw [q] at hy; cases hy
      | some z => exact h.bx' y z q
theorem last_sim (inj : InjB σ B) {E E' : List Ev} (h : EvsS σ B E E') {x g : T3} (hx : B x) (hg : B g) (t : Int) : lastOf (σ x) (σ g) t E' = lastOf x g t E := by
  unfold lastOf
  by_cases e : x = g
  · rw [if_pos e, if_pos (by rw [e])]
  · rw [if_neg e, if_neg fun z => e (inj x g hx hg z)]
    have := (h.rev.fold (R := MSim σ B) (fun _ _ _ _ h s => last_step h s) (msim_one inj hg none)).get x hx
    exact congrArg (fun o => o.getD none) this
/-! ### roads -/
structure NSim {β : Type} (σ : T3 → T3) (B : T3 → Prop) (m m' : List (T3 × β)) : Prop where
  s : MSim σ B m m'
  nd : (m.map (·.1)).Nodup
  nd' : (m'.map (·.1)).Nodup
theorem nsim_one {β : Type} (inj : InjB σ B) {g : T3} (hg : B g) (v : β) : NSim σ B [(g, v)] [(σ g, v)] := ⟨msim_one inj hg v, by simp, by simp⟩
theorem road_step {f wet : Int} {e e' : Ev} (h : EvS σ B e e') {m m' : List (T3 × Rv)} (s : NSim σ B m m') : NSim σ B (roadStep f wet m e) (roadStep f wet m' e') := by
  rw [roadStep_eq, roadStep_eq, h.tk]
  by_cases c : f ≤ e.2.1 ∧ e.2.1 < f + wet
  · rw [if_pos c, if_pos c]
    have g1 := fun y => roadF_get h.dj (m := m) y m m s.nd
    have g2 := fun y => roadF_get h.dj' (m := m') y m' m' s.nd'
    refine ⟨⟨fun x hx => (g2 (σ x)).trans (Eq.trans ?_ (g1 x).symm), fun y hy => ?_, fun y hy => ?_⟩, roadF_nd _ _ s.nd, roadF_nd _ _ s.nd'⟩
    · rw [s.s.get x hx, h.part x hx, h.tk, h.at_]
      cases q : partM e.2.2 x with
      | none => rfl
      | some z =>
        simp only [Option.map_some]
        rw [s.s.get z (h.by_ q)]
    · have hy := (congrArg Option.isSome (g1 y)).symm.trans hy
      by_cases c : aget m y = none
      · rw [if_pos c, c] at hy
        cases q : partM e.2.2 y with
        | none => rw [q] at hy; cases hy
        | some z => exact h.bx y z q
      · exact s.s.ks y (by cases r : aget m y with
          | none => exact absurd r c
          | some _ => rfl)
    · have hy := (congrArg Option.isSome (g2 y)).symm.trans hy
      by_cases c : aget m' y = none
      · rw [if_pos c, c] at hy
        cases q : partM e'.2.2 y with
        | none => rw [q] at hy; cases hy
        | some z => exact h.bx' y z q
      · exact s.s.ks' y (by cases r : aget m' y with
          | none => exact absurd r c
          | some _ => rfl)
  · rw [if_neg c, if_neg c]; exact s
theorem best_step {f wet t0 : Int} {e e' : Ev} (h : EvS σ B e e') {m m' : List (T3 × List Nat)} (s : NSim σ B m m') : NSim σ B (bestStep f wet t0 m e) (bestStep f wet t0 m' e') := by
  rw [bestStep_eq, bestStep_eq, h.tk]
  by_cases c : (f ≤ e.2.1 ∧ e.2.1 ≤ t0) ∧ e.2.1 < f + wet
  · rw [if_pos c, if_pos c]
    have g1 := fun y => bestF_get h.dj y m m s.nd
    have g2 := fun y => bestF_get h.dj' y m' m' s.nd'
    refine ⟨⟨fun x hx => (g2 (σ x)).trans (Eq.trans ?_ (g1 x).symm), fun y hy => ?_, fun y hy => ?_⟩, bestF_nd _ _ _ s.nd, bestF_nd _ _ _ s.nd'⟩
    · rw [s.s.get x hx, h.part x hx, h.at_]
      cases q : partM e.2.2 x with
      | none => rfl
      | some z =>
        simp only [Option.map_some]
        rw [s.s.get z (h.by_ q)]
    · have hy := (congrArg Option.isSome (g1 y)).symm.trans hy
      cases q : partM e.2.2 y with
      | none => rw [q] at hy; exact s.s.ks y hy
      | some z => exact h.bx y z q
    · have hy := (congrArg Option.isSome (g2 y)).symm.trans hy
      cases q : partM e'.2.2 y with
      | none => rw [q] at hy; exact s.s.ks' y hy
      | some z => exact h.bx' y z q
  · rw [if_neg c, if_neg c]; exact s
theorem road_sim (inj : InjB σ B) {f wet : Int} {E E' : List Ev} (h : EvsS σ B E E') {x g : T3} (hx : B x) (hg : B g) : roadM f wet (σ x) (σ g) E' = roadM f wet x g E := by
  unfold roadM
  by_cases e : x = g
  · rw [if_pos e, if_pos (by rw [e])]
  · rw [if_neg e, if_neg fun z => e (inj x g hx hg z)]
    have h1 := (h.fold (R := NSim σ B) (fun _ _ _ _ h s => road_step (f := f) (wet := wet) h s) (nsim_one inj hx (f, 0, []))).s.get g hg
    unfold bestOf
    rw [show aget (roadsM f wet (σ x) E') (σ g) = aget (roadsM f wet x E) g from h1]
    cases q : aget (roadsM f wet x E) g with
    | none => rfl
    | some v => exact (h.fold (R := NSim σ B) (fun _ _ _ _ h s => best_step (f := f) (wet := wet) (t0 := v.1) h s) (nsim_one inj hx [])).s.get g hg
/-! ### marks -/
def Drop.nm (σ : T3 → T3) (d : Drop) : Drop := ⟨d.f, σ d.x, d.w⟩
def gOne (y : T3) (o : Option Mk2) (d : Drop) : Option Mk2 := if d.x = y then some (jn o d.f (d.f + d.w)) else o
theorem putAll_get (y : T3) : ∀ (l : List Drop) (m : Found), aget (putAll l m) y = l.foldl (gOne y) (aget m y)
  | [], m => rfl
  | d :: l, m => by
    show aget (putAll l (putM m d.x d.f (d.f + d.w))) y = l.foldl (gOne y) (gOne y (aget m y) d)
    rw [putAll_get y l, putM_jn]
    unfold gOne
    by_cases e : d.x = y
    · rw [if_pos e, if_pos e, e]
    · rw [if_neg e, if_neg e]
theorem gOne_comm (y : T3) (o : Option Mk2) (d e : Drop) : gOne y (gOne y o d) e = gOne y (gOne y o e) d := by
  unfold gOne jn
  by_cases h1 : d.x = y <;> by_cases h2 : e.x = y <;> simp [h1, h2]
  cases o <;> simp <;> omega
theorem putAll_perm {l l' : List Drop} (h : l.Perm l') (m : Found) (y : T3) : aget (putAll l m) y = aget (putAll l' m) y := by
  rw [putAll_get, putAll_get]
  exact h.foldl_eq' (fun a _ b _ z => gOne_comm y z a b) _
theorem putM_sim (inj : InjB σ B) {m m' : Found} (s : MSim σ B m m') {x : T3} (hx : B x) (a b : Int) : MSim σ B (putM m x a b) (putM m' (σ x) a b) := by
  refine ⟨fun z hz => ?_, fun y hy => ?_, fun y hy => ?_⟩
  · rw [putM_jn, putM_jn]
    by_cases e : x = z
    · rw [if_pos e, if_pos (by rw [e]), s.get x hx]
    · rw [if_neg e, if_neg fun w => e (inj x z hx hz w), s.get z hz]
  · rw [putM_jn] at hy
    by_cases e : x = y
    · rw [← e]; exact hx
    · rw [if_neg e] at hy; exact s.ks y hy
  · rw [putM_jn] at hy
    by_cases e : σ x = y
    · exact ⟨x, hx, e.symm⟩
    · rw [if_neg e] at hy; exact s.ks' y hy
theorem putAll_sim0 (inj : InjB σ B) : ∀ (l : List Drop) {m m' : Found}, (∀ d ∈ l, B d.x) → MSim σ B m m' → MSim σ B (putAll l m) (putAll (l.map (Drop.nm σ)) m')
  | [], _, _, _, s => s
  | d :: l, _, _, h, s => putAll_sim0 inj l (fun d hd => h d (List.mem_cons_of_mem _ hd)) (putM_sim inj s (h d List.mem_cons_self) d.f (d.f + d.w))
theorem putAll_sim (inj : InjB σ B) {l l' : List Drop} (hl : l'.Perm (l.map (Drop.nm σ))) {m m' : Found} (h : ∀ d ∈ l, B d.x) (s : MSim σ B m m') : MSim σ B (putAll l m) (putAll l' m') := by
  have q := putAll_sim0 inj l h s
  exact ⟨fun x hx => (putAll_perm hl m' (σ x)).trans (q.get x hx), q.ks, fun y hy => q.ks' y (by rw [← putAll_perm hl m' y]; exact hy)⟩
theorem press_sim {t : Int} {e e' : Ev} (h : EvS σ B e e') {m m' : Found} (s : MSim σ B m m') : MSim σ B (pressAll t m e.2.2) (pressAll t m' e'.2.2) := by
  have g1 := pressAll_get t e.2.2 m h.dj
  have g2 := pressAll_get t e'.2.2 m' h.dj'
  refine ⟨fun x hx => (g2 (σ x)).trans (Eq.trans ?_ (g1 x).symm), fun y hy => ?_, fun y hy => ?_⟩
  · rw [s.get x hx, h.part x hx]
    cases q : partM e.2.2 x with
    | none => rfl
    | some z =>
      simp only [Option.map_some]
      rw [s.get z (h.by_ q)]
  · have hy := (congrArg Option.isSome (g1 y)).symm.trans hy
    cases q : partM e.2.2 y with
    | none => rw [q] at hy; exact s.ks y hy
    | some z => exact h.bx y z q
  · have hy := (congrArg Option.isSome (g2 y)).symm.trans hy
    cases q : partM e'.2.2 y with
    | none => rw [q] at hy; exact s.ks' y hy
    | some z => exact h.bx' y z q
def ByF (l : List Drop) : Prop := l.Pairwise fun a b => a.f ≤ b.f
theorem drain_eq (t : Int) : ∀ (l : List Drop) (m : Found), ByF l → drain t l m = (l.filter (fun d => !decide (d.f ≤ t)), putAll (l.filter fun d => decide (d.f ≤ t)) m)
  | [], m, _ => rfl
  | d :: l, m, h => by
    obtain ⟨h1, h2⟩ := List.pairwise_cons.mp h
    rw [show drain t (d :: l) m = if d.f ≤ t then drain t l (putM m d.x d.f (d.f + d.w)) else (d :: l, m) from rfl]
    by_cases c : d.f ≤ t
    · rw [if_pos c, drain_eq t l _ h2, List.filter_cons, List.filter_cons, if_neg (by simp [c]), if_pos (by simp [c])]
      rfl
    · have z : ∀ e ∈ d :: l, ¬ e.f ≤ t := fun e he => by
        rcases List.mem_cons.mp he with rfl | he
        · exact c
        · have := h1 e he; omega
      rw [if_neg c, List.filter_eq_self.mpr (fun e he => by simp [z e he]), List.filter_eq_nil_iff.mpr (fun e he => by simp [z e he])]
      rfl
structure SpSim (σ : T3 → T3) (B : T3 → Prop) (q q' : List Drop × Found) : Prop where
  so : ByF q.1
  so' : ByF q'.1
  pm : q'.1.Perm (q.1.map (Drop.nm σ))
  bx : ∀ d ∈ q.1, B d.x
  s : MSim σ B q.2 q'.2
theorem spStep_sim (inj : InjB σ B) {e e' : Ev} (h : EvS σ B e e') {q q' : List Drop × Found} (s : SpSim σ B q q') : SpSim σ B (spStep q e) (spStep q' e') := by
  unfold spStep
  rw [h.tk, drain_eq _ _ _ s.so, drain_eq _ _ _ s.so']
  have pf : ∀ p : Int → Bool, (q'.1.filter fun d => p d.f).Perm ((q.1.filter fun d => p d.f).map (Drop.nm σ)) := fun p => by
    have := s.pm.filter (fun d => p d.f)
    rw [List.filter_map] at this
    exact this
  refine ⟨s.so.filter _, s.so'.filter _, pf fun f => !decide (f ≤ e.2.1), fun d hd => s.bx d (List.mem_filter.mp hd).1, ?_⟩
  exact press_sim h (putAll_sim inj (pf fun f => decide (f ≤ e.2.1)) (fun d hd => s.bx d (List.mem_filter.mp hd).1) s.s)
theorem msim_nil {β : Type} : MSim (β := β) σ B [] [] := ⟨fun _ _ => rfl, fun _ h => (nomatch h), fun _ h => (nomatch h)⟩
theorem spread_sim (inj : InjB σ B) {E E' : List Ev} (h : EvsS σ B E E') {l l' : List Drop} (so : ByF l) (so' : ByF l') (pm : l'.Perm (l.map (Drop.nm σ))) (bx : ∀ d ∈ l, B d.x) : MSim σ B (spreadM E l) (spreadM E' l') := by
  have s := h.fold (R := SpSim σ B) (fun _ _ _ _ h s => spStep_sim inj h s) (a := (l, [])) (a' := (l', [])) ⟨so, so', pm, bx, msim_nil⟩
  exact putAll_sim inj s.pm s.bx s.s
end
end BB
set_option maxRecDepth 100000
set_option maxHeartbeats 1000000
namespace BB
open PySem PySem.Spec PyProof.Rows L2
local macro_rules | `(tactic| walk_at "d") => `(tactic| simp only [ap_var, ap_c, ap_op, ap_b, ap_chain, ap_isN, ap_notN, ap_not, ap_and, ap_or, ap_notV, ap_andV, ap_orV, ap_if, ap_nil, ap_cons, ap_tup, ap_lst, ap_newL, ap_call, ap_bt, ap_bm, ap_sl, ap_no, ap_some, ap_rev, ap_frz, ap_get2, ap_oneT, ap_newT, ap_newS, ap_dictNew, ap_isi, ap_gset, ap_gend, ap_gmore, ap_gtup, ap_gtup3, ap_gsub, ap_next, ap_seq, ap_drop, ap_ret, ap_retN, ap_brk, ap_cont, ap_ifS, ap_asg, ap_par, ap_par3, ap_aug, ap_onx, ap_ort, ap_it, ap_enum, ap_items, ap_rg1, ap_rg2, ap_zip, ap_eq, ap_ne, ap_i2, ap_arI, ap_addI, ap_addT, ap_addL, ap_ixT, ap_ixL, ap_ix3, ap_wlen, ap_wtup, ap_btN, ap_isiA, ap_callK, ap_callX, ap_lstRg, ap_ixMk, ap_min2, ap_max2, ap_ixDr, ap_gtupDr2, ap_gtupE, ex_at0, ex_at1, ex_at2, ex_bl, ex_int, ex_sli, ex_som, ex_ptr, ex_l1i, ex_l1l, al_l1i, ex_one,
  List.getElem?_cons_zero, List.getElem?_cons_succ, List.set_cons_zero, List.set_cons_succ, List.length_cons, List.length_nil, deq_int, deq_str, deq_e3, vw_e3, vw_i, vw_t, vw_l, vw_s, vw_n, vw_b, true_and, and_true, sh_i64, sh_n64, List.nil_append, List.cons_append, isN_n, isN_i, isN_t, isN_l, isN_b, isN_p, isNon_e3, Bool.not_false, Bool.not_true, if_true, if_false, Bool.false_eq_true, decide_eq_true_eq, ite_true, ite_false, Bool.not_eq_true', decide_eq_false_iff_not, vw_sh, vw_st, ap_ixSh, ap_ixD, ap_ixSt, sh_t3, ap_gtupD, vw_eD, wipeD, reduceIte, Bool.true_eq_false])
theorem ev_pairs {σ : T3 → T3} {B : T3 → Prop} (inj : InjB σ B) {e e' : Ev} (h1 : e'.1 = e.1) (h2 : e'.2.1 = e.2.1) (dj : Disj e.2.2) (dj' : Disj e'.2.2) (bx : ∀ p ∈ e.2.2, B p.1 ∧ B p.2)
    (h : ∀ X Y, ((X, Y) ∈ e'.2.2 ∨ (Y, X) ∈ e'.2.2) ↔ ∃ x y, ((x, y) ∈ e.2.2 ∨ (y, x) ∈ e.2.2) ∧ X = σ x ∧ Y = σ y) : EvS σ B e e' := by
  have bx2 : ∀ {x y}, ((x, y) ∈ e.2.2 ∨ (y, x) ∈ e.2.2) → B x ∧ B y := fun {x y} z => z.elim (fun z => bx _ z) (fun z => (bx _ z).symm)
  refine ⟨h1, h2, dj, dj', fun x y q => (bx2 ((part_iff dj x y).mp q)).1, fun X Y q => ?_, fun x hx => ?_⟩
  · obtain ⟨x, y, z, rfl, rfl⟩ := (h X Y).mp ((part_iff dj' X Y).mp q)
    exact ⟨x, (bx2 z).1, rfl⟩
  · cases q : partM e.2.2 x with
    | some y => exact (part_iff dj' _ _).mpr ((h _ _).mpr ⟨x, y, (part_iff dj x y).mp q, rfl, rfl⟩)
    | none =>
      cases q' : partM e'.2.2 (σ x) with
      | none => rfl
      | some Y =>
        obtain ⟨x', y, z, ex, rfl⟩ := (h _ _).mp ((part_iff dj' _ _).mp q')
        have : x = x' := inj x x' hx (bx2 z).1 ex
        subst this
        rw [(part_iff dj x y).mpr z] at q
        cases q
theorem mem_pairs {C : Nat} {p q x y : T3} : (x, y) ∈ pairsM C p q ↔ ∃ c : Nat, c < C ∧ x = (p.1, 1 - p.2.1, (c : Int)) ∧ y = (q.1, q.2.1, ffb C q.2.2 (ffb C p.2.2 (c : Int))) := by
  constructor
  · intro h
    obtain ⟨c, hc, e⟩ := mem_pairsM h
    exact ⟨c, hc, (Prod.mk.inj e).1, (Prod.mk.inj e).2⟩
  · rintro ⟨c, hc, rfl, rfl⟩
    unfold pairsM
    exact List.mem_map.mpr ⟨c, List.mem_range.mpr hc, rfl⟩
theorem ffb_co {C : Nat} {a : Int} (h : a = 0 ∨ a = 1) (c : Int) : ffb C (1 - a) ((C : Int) - 1 - c) = ffb C a c := by
  rcases h with rfl | rfl
  · simp only [ffb]; simp; omega
  · simp only [ffb]; simp
theorem ffb_no {C : Nat} {a : Int} (h : a = 0 ∨ a = 1) (c : Int) : ffb C (1 - a) c = (C : Int) - 1 - ffb C a c := by
  rcases h with rfl | rfl
  · simp only [ffb]; simp
  · simp only [ffb]; simp; omega
theorem ffb_ci (C : Nat) (a c : Int) : ffb C a ((C : Int) - 1 - c) = (C : Int) - 1 - ffb C a c := by
  unfold ffb
  split <;> omega
theorem box_of {a b c : Nat} {p : T3} (h : p ∈ box a b c) : (0 ≤ p.1 ∧ p.1 < a) ∧ (0 ≤ p.2.1 ∧ p.2.1 < b) ∧ 0 ≤ p.2.2 ∧ p.2.2 < c := by
  unfold box at h
  simp only [List.mem_flatMap, List.mem_range, List.mem_map] at h
  obtain ⟨i, hi, j, hj, k, hk, rfl⟩ := h
  exact ⟨⟨by show (0 : Int) ≤ i; omega, by show (i : Int) < a; omega⟩, ⟨by show (0 : Int) ≤ j; omega, by show (j : Int) < b; omega⟩, by show (0 : Int) ≤ k; omega, by show (k : Int) < c; omega⟩
theorem pairs_box {L C : Nat} {s : Stand} (h : OkSt L s) {p q : T3} (hp : p ∈ s) (hq : q ∈ s) : ∀ x ∈ pairsM C p q, x.1 ∈ box L 2 C ∧ x.2 ∈ box L 2 C := by
  intro x hx
  obtain ⟨c, hc, rfl⟩ := mem_pairsM hx
  have h1 := h.leaf hp
  have h2 := h.leaf hq
  have h3 := h.ov p hp
  have h4 := h.ov q hq
  have h5 := ffb_in (C := C) (a := p.2.2) (c := (c : Int)) (by omega) (by omega)
  have h6 := ffb_in (C := C) (a := q.2.2) (c := ffb C p.2.2 (c : Int)) h5.1 h5.2
  exact ⟨mem_box h1.1 h1.2 (by show 0 ≤ 1 - p.2.1; omega) (by show 1 - p.2.1 < ((2 : Nat) : Int); omega) (by show (0 : Int) ≤ c; omega) (by show (c : Int) < C; omega), mem_box h2.1 h2.2 (by show 0 ≤ q.2.1; omega) (by show q.2.1 < ((2 : Nat) : Int); omega) h6.1 h6.2⟩
/-! ### by other names -/
theorem swapM_map {α β : Type} (g : α → β) : ∀ (s : List α) (k : Nat), swapM (s.map g) k = (swapM s k).map g
  | [], _ => by simp [swapM]
  | [x], 0 => by simp [swapM]
  | [x], k + 1 => by simp [swapM]
  | x :: y :: l, 0 => by simp [swapM]
  | x :: y :: l, k + 1 => by
    have := swapM_map g (y :: l) k
    simp only [List.map_cons] at this ⊢
    rw [swapM, swapM, this]; rfl
theorem modM_com {α β : Type} {g : α → β} {f : α → α} {f' : β → β} (h : ∀ x, f' (g x) = g (f x)) : ∀ (s : List α) (k : Nat), modM f' (s.map g) k = (modM f s k).map g
  | [], _ => by simp [modM]
  | x :: l, 0 => by simp [modM, h]
  | x :: l, k + 1 => by simp [modM, modM_com h l k]
structure OkNm (L C : Nat) (m : Nm) : Prop where
  p : m.l.Perm (List.range L)
  w : m.w = C
section
variable {L C : Nat} {m : Nm}
theorem moved_lie (s : Stand) (d : Deed) : movedM (s.map m.lie) d = (movedM s d).map m.lie := by
  cases d with
  | press k => rfl
  | wait k => rfl
  | swap k => exact swapM_map _ s k
  | over k =>
    refine modM_com (fun x => ?_) s k
    show (m.leaf x.1, 1 - m.side x.2.1, _) = (m.leaf x.1, m.side (1 - x.2.1), _)
    have : 1 - m.side x.2.1 = m.side (1 - x.2.1) := by unfold Nm.side; split <;> rfl
    rw [this]; rfl
  | about k =>
    refine modM_com (fun x => ?_) s k
    show (m.leaf x.1, m.side x.2.1, 1 - (if m.b = true then 1 - x.2.2 else x.2.2)) = (m.leaf x.1, m.side x.2.1, if m.b = true then 1 - (1 - x.2.2) else 1 - x.2.2)
    have : 1 - (if m.b = true then 1 - x.2.2 else x.2.2) = (if m.b = true then 1 - (1 - x.2.2) else 1 - x.2.2) := by split <;> rfl
    rw [this]
theorem OkNm.len (h : OkNm L C m) : m.l.length = L := by rw [h.p.length_eq, List.length_range]
theorem OkNm.leaf (h : OkNm L C m) {i : Int} (h0 : 0 ≤ i) (h1 : i < L) : ∃ (n k : Nat), i = (k : Int) ∧ m.l[k]? = some n ∧ n < L ∧ m.leaf i = (n : Int) := by
  obtain ⟨k, rfl⟩ := Int.eq_ofNat_of_zero_le h0
  have hk : k < m.l.length := by rw [h.len]; omega
  refine ⟨m.l[k], k, rfl, List.getElem?_eq_getElem hk, List.mem_range.mp (h.p.mem_iff.mp (List.getElem_mem hk)), ?_⟩
  unfold Nm.leaf
  rw [Int.toNat_natCast, List.getD_eq_getElem?_getD, List.getElem?_eq_getElem hk]; rfl
theorem OkNm.inj (h : OkNm L C m) : InjB m.spot (fun x => x ∈ box L 2 C) := by
  rintro ⟨a, b, c⟩ ⟨a', b', c'⟩ hx hy e
  obtain ⟨⟨x1, x2⟩, _, _, _⟩ := box_of hx
  obtain ⟨⟨y1, y2⟩, _, _, _⟩ := box_of hy
  have e1 : m.leaf a = m.leaf a' := (Prod.mk.inj e).1
  have e2 : m.side b = m.side b' := (Prod.mk.inj (Prod.mk.inj e).2).1
  have e3 : m.cell c = m.cell c' := (Prod.mk.inj (Prod.mk.inj e).2).2
  obtain ⟨n, k, ek, hk, _, en⟩ := h.leaf x1 x2
  obtain ⟨n', k', ek', hk', _, en'⟩ := h.leaf y1 y2
  simp only at ek ek' en en'
  rw [en, en'] at e1
  have nd : m.l.Nodup := h.p.nodup_iff.mpr List.nodup_range
  have hkk : k = k' := by
    obtain ⟨z, z1⟩ := List.getElem?_eq_some_iff.mp hk
    obtain ⟨z', z1'⟩ := List.getElem?_eq_some_iff.mp hk'
    refine (List.getElem_inj (h₀ := z) (h₁ := z') nd).mp ?_
    rw [z1, z1']; omega
  have ea : a = a' := by rw [ek, ek', hkk]
  have eb : b = b' := by
    unfold Nm.side at e2
    split at e2 <;> omega
  have ec : c = c' := by
    unfold Nm.cell at e3
    split at e3 <;> omega
  rw [ea, eb, ec]
theorem OkNm.box (h : OkNm L C m) {x : T3} (hx : x ∈ BB.box L 2 C) : m.spot x ∈ BB.box L 2 C := by
  obtain ⟨⟨x1, x2⟩, ⟨x3, x4⟩, x5, x6⟩ := box_of hx
  obtain ⟨n, k, _, _, hn, en⟩ := h.leaf x1 x2
  have hw := h.w
  refine mem_box ?_ ?_ ?_ ?_ ?_ ?_
  · show 0 ≤ m.leaf x.1; rw [en]; omega
  · show m.leaf x.1 < L; rw [en]; omega
  · show 0 ≤ m.side x.2.1; unfold Nm.side; split <;> omega
  · show m.side x.2.1 < ((2 : Nat) : Int); unfold Nm.side; split <;> omega
  · show 0 ≤ m.cell x.2.2; unfold Nm.cell; rw [hw]; split <;> omega
  · show m.cell x.2.2 < (C : Int); unfold Nm.cell; rw [hw]; split <;> omega
theorem OkNm.stand (h : OkNm L C m) {s : Stand} (hs : OkSt L s) : OkSt L (s.map m.lie) := by
  refine ⟨?_, fun p hp => ?_, fun p hp => ?_⟩
  · rw [List.map_map, show (((fun x : T3 => x.1) ∘ m.lie)) = m.leaf ∘ (fun x : T3 => x.1) from rfl, ← List.map_map]
    refine (hs.lv.map m.leaf).trans ?_
    rw [List.map_map]
    have e : ((List.range L).map (m.leaf ∘ fun (i : Nat) => (i : Int))) = m.l.map fun (i : Nat) => (i : Int) := by
      apply List.ext_getElem?
      intro i
      rw [List.getElem?_map, List.getElem?_map]
      by_cases hi : i < L
      · obtain ⟨n, k, ek, hk, _, en⟩ := h.leaf (i := (i : Int)) (by omega) (by omega)
        have : i = k := by omega
        subst this
        rw [List.getElem?_range hi, hk]
        exact congrArg some en
      · rw [List.getElem?_eq_none (by rw [List.length_range]; omega), List.getElem?_eq_none (by rw [h.len]; omega)]; rfl
    rw [e]
    exact h.p.map _
  · obtain ⟨q, hq, rfl⟩ := List.mem_map.mp hp
    have := hs.ov q hq
    show m.side q.2.1 = 0 ∨ m.side q.2.1 = 1
    unfold Nm.side; split <;> omega
  · obtain ⟨q, hq, rfl⟩ := List.mem_map.mp hp
    have := hs.ab q hq
    show (if m.b = true then 1 - q.2.2 else q.2.2) = 0 ∨ (if m.b = true then 1 - q.2.2 else q.2.2) = 1
    split <;> omega
theorem OkNm.pairs (h : OkNm L C m) {p q : T3} (hp : p.2.2 = 0 ∨ p.2.2 = 1) (hq : q.2.2 = 0 ∨ q.2.2 = 1) (X Y : T3) : (X, Y) ∈ pairsM C (m.lie p) (m.lie q) ↔ ∃ x y, (x, y) ∈ pairsM C p q ∧ X = m.spot x ∧ Y = m.spot y := by
  have hs : 1 - m.side p.2.1 = m.side (1 - p.2.1) := by unfold Nm.side; split <;> rfl
  rw [mem_pairs]
  cases hb : m.b with
  | false =>
    have hc : ∀ i, m.cell i = i := fun i => by unfold Nm.cell; rw [hb]; rfl
    have hl : ∀ x : T3, (m.lie x) = (m.leaf x.1, m.side x.2.1, x.2.2) := fun x => by unfold Nm.lie; rw [hb]; rfl
    have hsp : ∀ x : T3, (m.spot x) = (m.leaf x.1, m.side x.2.1, x.2.2) := fun x => by unfold Nm.spot; rw [hc]
    simp only [hl, hsp]
    constructor
    · rintro ⟨c, hc, rfl, rfl⟩
      exact ⟨_, _, mem_pairs.mpr ⟨c, hc, rfl, rfl⟩, by rw [hs], rfl⟩
    · rintro ⟨x, y, hxy, rfl, rfl⟩
      obtain ⟨c, hc, rfl, rfl⟩ := mem_pairs.mp hxy
      exact ⟨c, hc, by rw [hs], rfl⟩
  | true =>
    have hc : ∀ i, m.cell i = (C : Int) - 1 - i := fun i => by unfold Nm.cell; rw [hb, h.w]; rfl
    have hl : ∀ x : T3, (m.lie x) = (m.leaf x.1, m.side x.2.1, 1 - x.2.2) := fun x => by unfold Nm.lie; rw [hb]; rfl
    have hsp : ∀ x : T3, (m.spot x) = (m.leaf x.1, m.side x.2.1, (C : Int) - 1 - x.2.2) := fun x => by unfold Nm.spot; rw [hc]
    simp only [hl, hsp]
    have key : ∀ c : Int, ffb C (1 - q.2.2) (ffb C (1 - p.2.2) ((C : Int) - 1 - c)) = (C : Int) - 1 - ffb C q.2.2 (ffb C p.2.2 c) := fun c => by
      rw [ffb_co hp, ffb_no hq]
    constructor
    · rintro ⟨c, hc, rfl, rfl⟩
      have e : ((C - 1 - c : Nat) : Int) = (C : Int) - 1 - c := by omega
      have e2 : (C : Int) - 1 - ((C : Int) - 1 - (c : Int)) = c := by omega
      refine ⟨_, _, mem_pairs.mpr ⟨C - 1 - c, by omega, rfl, rfl⟩, ?_, ?_⟩
      · show (m.leaf p.1, 1 - m.side p.2.1, (c : Int)) = (m.leaf p.1, m.side (1 - p.2.1), (C : Int) - 1 - ((C - 1 - c : Nat) : Int))
        rw [e, e2, hs]
      · show (m.leaf q.1, m.side q.2.1, ffb C (1 - q.2.2) (ffb C (1 - p.2.2) (c : Int))) = (m.leaf q.1, m.side q.2.1, (C : Int) - 1 - ffb C q.2.2 (ffb C p.2.2 ((C - 1 - c : Nat) : Int)))
        rw [← key, e, e2]
    · rintro ⟨x, y, hxy, rfl, rfl⟩
      obtain ⟨c, hc, rfl, rfl⟩ := mem_pairs.mp hxy
      have e : ((C - 1 - c : Nat) : Int) = (C : Int) - 1 - c := by omega
      refine ⟨C - 1 - c, by omega, ?_, ?_⟩
      · rw [hs, e]
      · show (_, _, _) = (_, _, _)
        rw [← key, e]
end
end BB
set_option maxRecDepth 100000
set_option maxHeartbeats 1000000
namespace BB
open PySem PySem.Spec PyProof.Rows L2
local macro_rules | `(tactic| walk_at "d") => `(tactic| simp only [ap_var, ap_c, ap_op, ap_b, ap_chain, ap_isN, ap_notN, ap_not, ap_and, ap_or, ap_notV, ap_andV, ap_orV, ap_if, ap_nil, ap_cons, ap_tup, ap_lst, ap_newL, ap_call, ap_bt, ap_bm, ap_sl, ap_no, ap_some, ap_rev, ap_frz, ap_get2, ap_oneT, ap_newT, ap_newS, ap_dictNew, ap_isi, ap_gset, ap_gend, ap_gmore, ap_gtup, ap_gtup3, ap_gsub, ap_next, ap_seq, ap_drop, ap_ret, ap_retN, ap_brk, ap_cont, ap_ifS, ap_asg, ap_par, ap_par3, ap_aug, ap_onx, ap_ort, ap_it, ap_enum, ap_items, ap_rg1, ap_rg2, ap_zip, ap_eq, ap_ne, ap_i2, ap_arI, ap_addI, ap_addT, ap_addL, ap_ixT, ap_ixL, ap_ix3, ap_wlen, ap_wtup, ap_btN, ap_isiA, ap_callK, ap_callX, ap_lstRg, ap_ixMk, ap_min2, ap_max2, ap_ixDr, ap_gtupDr2, ap_gtupE, ex_at0, ex_at1, ex_at2, ex_bl, ex_int, ex_sli, ex_som, ex_ptr, ex_l1i, ex_l1l, al_l1i, ex_one,
  List.getElem?_cons_zero, List.getElem?_cons_succ, List.set_cons_zero, List.set_cons_succ, List.length_cons, List.length_nil, deq_int, deq_str, deq_e3, vw_e3, vw_i, vw_t, vw_l, vw_s, vw_n, vw_b, true_and, and_true, sh_i64, sh_n64, List.nil_append, List.cons_append, isN_n, isN_i, isN_t, isN_l, isN_b, isN_p, isNon_e3, Bool.not_false, Bool.not_true, if_true, if_false, Bool.false_eq_true, decide_eq_true_eq, ite_true, ite_false, Bool.not_eq_true', decide_eq_false_iff_not, vw_sh, vw_st, ap_ixSh, ap_ixD, ap_ixSt, sh_t3, ap_gtupD, vw_eD, wipeD, reduceIte, Bool.true_eq_false])
section
variable {σ : T3 → T3} {B : T3 → Prop} {L C : Nat}
theorem evs_sim {T : Stand → Stand} {Dm : Deed → Deed} (hm : ∀ s d, OkSt L s → OkD L d → movedM (T s) (Dm d) = T (movedM s d)) (ht : ∀ d, takesM (Dm d) = takesM d) (h0 : ∀ d, isPress d = none → isPress (Dm d) = none)
    (hp : ∀ s k a t, OkSt L s → k + 1 < L → ∃ k', isPress (Dm (.press k)) = some k' ∧ EvS σ B (a, t, pairsAt C s k) (a, t, pairsAt C (T s) k')) : ∀ (r : List Deed) (s : Stand) (a : Nat) (t : Int), OkSt L s → (∀ d ∈ r, OkD L d) → EvsS σ B (pressM C s a t r) (pressM C (T s) a t (r.map Dm))
  | [], s, a, t, _, _ => .nil
  | d :: r, s, a, t, hs, hr => by
    have hd := hr d List.mem_cons_self
    rw [List.map_cons, pressM, pressM, hm s d hs hd, ht]
    refine EvsS.app ?_ (evs_sim hm ht h0 hp r (movedM s d) (a + 1) _ (hs.moved d) fun d' hd' => hr d' (List.mem_cons_of_mem _ hd'))
    cases d with
    | press k =>
      obtain ⟨k', e, q⟩ := hp s k a t hs hd.ok
      rw [e]
      exact .cons q .nil
    | swap k => rw [h0 (.swap k) rfl]; exact .nil
    | over k => rw [h0 (.over k) rfl]; exact .nil
    | about k => rw [h0 (.about k) rfl]; exact .nil
    | wait k => rw [h0 (.wait k) rfl]; exact .nil
theorem OkSt.ne {s : Stand} (hs : OkSt L s) {k : Nat} (hk : k + 1 < s.length) : s[k].1 ≠ s[k + 1].1 := fun e => by
  have hn := hs.nd
  have := List.pairwise_iff_getElem.mp hn k (k + 1) (by simp; omega) (by simpa using hk) (by omega)
  simp only [List.getElem_map] at this
  exact this e
theorem OkNm.evs {m : Nm} (h : OkNm L C m) {s : Stand} (hs : OkSt L s) {r : List Deed} (hr : ∀ d ∈ r, OkD L d) : EvsS m.spot (fun x => x ∈ BB.box L 2 C) (evsOf C s r) (evsOf C (s.map m.lie) r) := by
  have := evs_sim (σ := m.spot) (B := fun x => x ∈ BB.box L 2 C) (L := L) (C := C) (T := fun s => s.map m.lie) (Dm := id) (fun s d _ _ => moved_lie s d) (fun _ => rfl) (fun _ h => h) (fun s k a t hs hk => ⟨k, rfl, ?_⟩) r s 0 0 hs hr
  · rw [List.map_id] at this
    exact this
  · have hk1 : k + 1 < s.length := by rw [hs.len]; exact hk
    have hk2 : k + 1 < (s.map m.lie).length := by rw [List.length_map]; exact hk1
    rw [pairsAt_eq hk1, pairsAt_eq hk2]
    have ne1 := hs.ne hk1
    have ne2 := (h.stand hs).ne hk2
    rw [List.getElem_map, List.getElem_map] at ne2 ⊢
    have hP := h.pairs (hs.ab _ (List.getElem_mem (h := (show k < s.length by omega)))) (hs.ab _ (List.getElem_mem hk1))
    refine ev_pairs h.inj rfl rfl (pairsM_disj ne1) (pairsM_disj ne2) (pairs_box hs (List.getElem_mem _) (List.getElem_mem _)) fun X Y => ?_
    simp only [hP]
    constructor
    · rintro (⟨x, y, z, rfl, rfl⟩ | ⟨x, y, z, rfl, rfl⟩)
      · exact ⟨x, y, .inl z, rfl, rfl⟩
      · exact ⟨y, x, .inr z, rfl, rfl⟩
    · rintro ⟨x, y, z | z, rfl, rfl⟩
      · exact .inl ⟨x, y, z, rfl, rfl⟩
      · exact .inr ⟨y, x, z, rfl, rfl⟩
/-! ### from the last place on -/
def flp (p : T3) : T3 := (p.1, 1 - p.2.1, p.2.2)
theorem mirS_eq (s : Stand) : mirS s = s.reverse.map flp := rfl
theorem swapM_get {α : Type} : ∀ (s : List α) (k i : Nat), k + 1 < s.length → (swapM s k)[i]? = if i = k then s[k + 1]? else if i = k + 1 then s[k]? else s[i]?
  | [], _, _, h => by simp at h
  | [x], 0, _, h => by simp at h
  | [x], k + 1, _, h => by simp at h
  | x :: y :: l, 0, i, _ => by
    rw [swapM]
    match i with
    | 0 => simp
    | 1 => simp
    | i + 2 => simp
  | x :: y :: l, k + 1, i, h => by
    rw [swapM]
    match i with
    | 0 => simp
    | i + 1 =>
      have := swapM_get (y :: l) k i (by simpa using h)
      simp only [List.getElem?_cons_succ, Nat.add_right_cancel_iff]
      exact this
theorem modM_get {α : Type} (f : α → α) : ∀ (s : List α) (k i : Nat), (modM f s k)[i]? = if i = k then (s[i]?).map f else s[i]?
  | [], k, i => by simp [modM]
  | x :: l, 0, i => by
    rw [modM]
    match i with
    | 0 => simp
    | i + 1 => simp
  | x :: l, k + 1, i => by
    rw [modM]
    match i with
    | 0 => simp
    | i + 1 =>
      have := modM_get f l k i
      simp only [List.getElem?_cons_succ, Nat.add_right_cancel_iff]
      exact this
theorem swapM_rev {α : Type} {s : List α} {k : Nat} (h : k + 1 < s.length) : swapM s.reverse (s.length - 2 - k) = (swapM s k).reverse := by
  have hl : (swapM s k).length = s.length := (swapM_perm s k).length_eq
  have hr : (s.reverse).length = s.length := List.length_reverse
  have hl2 : (swapM s.reverse (s.length - 2 - k)).length = s.length := ((swapM_perm _ _).length_eq).trans hr
  apply List.ext_getElem?
  intro i
  by_cases hi : i < s.length
  · rw [swapM_get _ _ _ (by rw [hr]; omega), List.getElem?_reverse (l := swapM s k) (by rw [hl]; exact hi), hl, swapM_get _ _ _ h]
    rw [List.getElem?_reverse (show s.length - 2 - k + 1 < s.length by omega), List.getElem?_reverse (show s.length - 2 - k < s.length by omega), List.getElem?_reverse hi]
    by_cases e1 : i = s.length - 2 - k
    · rw [if_pos e1, if_neg (show ¬ (s.length - 1 - i = k) by omega), if_pos (show s.length - 1 - i = k + 1 by omega)]
      congr 1
      omega
    · rw [if_neg e1]
      by_cases e2 : i = s.length - 2 - k + 1
      · rw [if_pos e2, if_pos (show s.length - 1 - i = k by omega)]
        congr 1
        omega
      · rw [if_neg e2, if_neg (show ¬ (s.length - 1 - i = k) by omega), if_neg (show ¬ (s.length - 1 - i = k + 1) by omega)]
  · rw [List.getElem?_eq_none (by rw [hl2]; omega), List.getElem?_eq_none (by rw [List.length_reverse, hl]; omega)]
theorem modM_length {α : Type} (f : α → α) : ∀ (s : List α) (k : Nat), (modM f s k).length = s.length
  | [], _ => by simp [modM]
  | x :: l, 0 => by simp [modM]
  | x :: l, k + 1 => by simp [modM, modM_length f l k]
theorem modM_rev {α : Type} (f : α → α) {s : List α} {k : Nat} (h : k < s.length) : modM f s.reverse (s.length - 1 - k) = (modM f s k).reverse := by
  have hl : (modM f s k).length = s.length := modM_length f s k
  apply List.ext_getElem?
  intro i
  by_cases hi : i < s.length
  · rw [modM_get, List.getElem?_reverse (l := modM f s k) (by rw [hl]; exact hi), hl, modM_get, List.getElem?_reverse hi]
    by_cases e1 : i = s.length - 1 - k
    · rw [if_pos e1, if_pos (show s.length - 1 - i = k by omega)]
    · rw [if_neg e1, if_neg (show ¬ (s.length - 1 - i = k) by omega)]
  · rw [List.getElem?_eq_none (by rw [modM_length, List.length_reverse]; omega), List.getElem?_eq_none (by rw [List.length_reverse, hl]; omega)]
theorem moved_mir {s : Stand} {d : Deed} (hs : s.length = L) (hd : okDeed L d) : movedM (mirS s) (mirD L d) = mirS (movedM s d) := by
  subst hs
  cases d with
  | press k => rfl
  | wait k => rfl
  | swap k =>
    show swapM (s.reverse.map flp) (s.length - 2 - k) = (swapM s k).reverse.map flp
    rw [swapM_map, swapM_rev hd]
  | over k =>
    show modM _ (s.reverse.map flp) (s.length - 1 - k) = (modM _ s k).reverse.map flp
    rw [modM_com (g := flp) (f := fun p : T3 => (p.1, 1 - p.2.1, p.2.2)) (f' := fun p : T3 => (p.1, 1 - p.2.1, p.2.2)) (fun x => rfl), modM_rev _ hd]
  | about k =>
    show modM _ (s.reverse.map flp) (s.length - 1 - k) = (modM _ s k).reverse.map flp
    rw [modM_com (g := flp) (f := fun p : T3 => (p.1, p.2.1, 1 - p.2.2)) (f' := fun p : T3 => (p.1, p.2.1, 1 - p.2.2)) (fun x => rfl), modM_rev _ hd]
theorem OkSt.mir {s : Stand} (hs : OkSt L s) : OkSt L (mirS s) := by
  refine ⟨?_, fun p hp => ?_, fun p hp => ?_⟩
  · rw [mirS_eq, List.map_map, show ((fun x : T3 => x.1) ∘ flp) = (fun x : T3 => x.1) from rfl]
    exact ((List.reverse_perm s).map _).trans hs.lv
  · obtain ⟨q, hq, rfl⟩ := List.mem_map.mp hp
    have := hs.ov q (List.mem_reverse.mp hq)
    show 1 - q.2.1 = 0 ∨ 1 - q.2.1 = 1
    omega
  · obtain ⟨q, hq, rfl⟩ := List.mem_map.mp hp
    exact hs.ab q (List.mem_reverse.mp hq)
theorem OkD.mir {d : Deed} (h : OkD L d) : OkD L (mirD L d) := by
  obtain ⟨h1, h2, h3⟩ := h
  cases d with
  | press k => exact ⟨by show L - 2 - k + 1 < L; have : k + 1 < L := h1; omega, h2, h3⟩
  | swap k => exact ⟨by show L - 2 - k + 1 < L; have : k + 1 < L := h1; omega, h2, h3⟩
  | over k => exact ⟨by show L - 1 - k < L; have : k < L := h1; omega, h2, h3⟩
  | about k => exact ⟨by show L - 1 - k < L; have : k < L := h1; omega, h2, h3⟩
  | wait k => exact ⟨h1, h2, h3⟩
theorem injB_id {B : T3 → Prop} : InjB id B := fun _ _ _ _ e => e
theorem mir_get {s : Stand} {i : Nat} (hi : i < s.length) : (mirS s)[i]? = some (flp s[s.length - 1 - i]) := by
  rw [mirS_eq, List.getElem?_map, List.getElem?_reverse hi, List.getElem?_eq_getElem (by omega)]; rfl
theorem pairs_mir {C : Nat} {p q : T3} (hC : True) (X Y : T3) : (X, Y) ∈ pairsM C (flp q) (flp p) ↔ (Y, X) ∈ pairsM C p q := by
  rw [mem_pairs, mem_pairs]
  constructor
  · rintro ⟨c, hc, rfl, rfl⟩
    have h1 := ffb_in (C := C) (a := q.2.2) (c := (c : Int)) (by omega) (by omega)
    have h2 := ffb_in (C := C) (a := p.2.2) (c := ffb C q.2.2 (c : Int)) h1.1 h1.2
    obtain ⟨c2, e⟩ := Int.eq_ofNat_of_zero_le h2.1
    refine ⟨c2, by omega, ?_, ?_⟩
    · show (p.1, 1 - p.2.1, ffb C p.2.2 (ffb C q.2.2 (c : Int))) = _
      rw [e]
    · show (q.1, 1 - (1 - q.2.1), (c : Int)) = (q.1, q.2.1, ffb C q.2.2 (ffb C p.2.2 (c2 : Int)))
      have e : (c2 : Int) = ffb C p.2.2 (ffb C q.2.2 (c : Int)) := e.symm
      rw [e, ffb_ffb, ffb_ffb, show 1 - (1 - q.2.1) = q.2.1 by omega]
  · rintro ⟨c, hc, rfl, rfl⟩
    have h1 := ffb_in (C := C) (a := p.2.2) (c := (c : Int)) (by omega) (by omega)
    have h2 := ffb_in (C := C) (a := q.2.2) (c := ffb C p.2.2 (c : Int)) h1.1 h1.2
    obtain ⟨c2, e⟩ := Int.eq_ofNat_of_zero_le h2.1
    refine ⟨c2, by omega, ?_, ?_⟩
    · show (q.1, q.2.1, ffb C q.2.2 (ffb C p.2.2 (c : Int))) = (q.1, 1 - (1 - q.2.1), (c2 : Int))
      rw [e, show 1 - (1 - q.2.1) = q.2.1 by omega]
    · show (p.1, 1 - p.2.1, (c : Int)) = (p.1, 1 - p.2.1, ffb C p.2.2 (ffb C q.2.2 (c2 : Int)))
      have e : (c2 : Int) = ffb C q.2.2 (ffb C p.2.2 (c : Int)) := e.symm
      rw [e, ffb_ffb, ffb_ffb]
theorem pairsAt_mir {s : Stand} (hs : OkSt L s) {k : Nat} (hk : k + 1 < L) (a : Nat) (t : Int) : EvS id (fun x => x ∈ box L 2 C) (a, t, pairsAt C s k) (a, t, pairsAt C (mirS s) (L - 2 - k)) := by
  have hl := hs.len
  have hk1 : k + 1 < s.length := by omega
  have h1 : (mirS s)[L - 2 - k]? = some (flp s[k + 1]) := by
    rw [mir_get (by omega)]
    congr 2
    congr 1
    omega
  have h2 : (mirS s)[L - 2 - k + 1]? = some (flp s[k]) := by
    rw [mir_get (by omega)]
    congr 2
    congr 1
    omega
  have e : pairsAt C (mirS s) (L - 2 - k) = pairsM C (flp s[k + 1]) (flp s[k]) := by
    unfold pairsAt
    rw [h1, h2]
  rw [e, pairsAt_eq hk1]
  have ne1 := hs.ne hk1
  refine ev_pairs injB_id rfl rfl (pairsM_disj ne1) (pairsM_disj (show (flp s[k + 1]).1 ≠ (flp s[k]).1 from Ne.symm ne1)) (pairs_box hs (List.getElem_mem _) (List.getElem_mem _)) fun X Y => ?_
  simp only [pairs_mir trivial]
  constructor
  · rintro (z | z)
    · exact ⟨X, Y, .inr z, rfl, rfl⟩
    · exact ⟨X, Y, .inl z, rfl, rfl⟩
  · rintro ⟨x, y, z | z, rfl, rfl⟩
    · exact .inr z
    · exact .inl z
theorem mir_evs {s : Stand} (hs : OkSt L s) {r : List Deed} (hr : ∀ d ∈ r, OkD L d) : EvsS id (fun x => x ∈ box L 2 C) (evsOf C s r) (evsOf C (mirS s) (r.map (mirD L))) :=
  evs_sim (T := mirS) (Dm := mirD L) (fun s d hs hd => moved_mir hs.len hd.ok) (fun d => by cases d <;> rfl) (fun d h => by cases d <;> first | rfl | cases h) (fun s k a t hs hk => ⟨L - 2 - k, rfl, pairsAt_mir hs hk a t⟩) r s 0 0 hs hr
/-! ### all turned about -/
def rnd (p : T3) : T3 := (p.1, p.2.1, 1 - p.2.2)
theorem moved_rnd (s : Stand) (d : Deed) : movedM (s.map rnd) d = (movedM s d).map rnd := by
  cases d with
  | press k => rfl
  | wait k => rfl
  | swap k => exact swapM_map _ s k
  | over k => exact modM_com (g := rnd) (f := fun p : T3 => (p.1, 1 - p.2.1, p.2.2)) (fun x => rfl) s k
  | about k => exact modM_com (g := rnd) (f := fun p : T3 => (p.1, p.2.1, 1 - p.2.2)) (fun x => rfl) s k
theorem pairsM_rnd {C : Nat} {p q : T3} (hp : p.2.2 = 0 ∨ p.2.2 = 1) (hq : q.2.2 = 0 ∨ q.2.2 = 1) : pairsM C (rnd p) (rnd q) = pairsM C p q := by
  unfold pairsM
  apply List.map_congr_left
  intro c _
  show ((p.1, 1 - p.2.1, (c : Int)), (q.1, q.2.1, ffb C (1 - q.2.2) (ffb C (1 - p.2.2) (c : Int)))) = _
  rw [ffb_no hp, ffb_co hq]
theorem pairsAt_rnd {C : Nat} {s : Stand} (ab : ∀ p ∈ s, p.2.2 = 0 ∨ p.2.2 = 1) (k : Nat) : pairsAt C (s.map rnd) k = pairsAt C s k := by
  unfold pairsAt
  rw [List.getElem?_map, List.getElem?_map]
  cases h1 : s[k]? with
  | none => rfl
  | some p =>
    cases h2 : s[k + 1]? with
    | none => rfl
    | some q => exact pairsM_rnd (ab p (List.mem_of_getElem? h1)) (ab q (List.mem_of_getElem? h2))
theorem rnd_evs : ∀ (r : List Deed) (s : Stand) (a : Nat) (t : Int), OkSt L s → pressM C (s.map rnd) a t r = pressM C s a t r
  | [], s, a, t, _ => rfl
  | d :: r, s, a, t, hs => by
    rw [pressM, pressM, moved_rnd, rnd_evs r (movedM s d) _ _ (hs.moved d)]
    congr 1
    cases isPress d with
    | none => rfl
    | some k => simp only [pairsAt_rnd hs.ab]
theorem OkSt.rnd {s : Stand} (hs : OkSt L s) : OkSt L (s.map BB.rnd) := by
  refine ⟨?_, fun p hp => ?_, fun p hp => ?_⟩
  · rw [List.map_map, show ((fun x : T3 => x.1) ∘ BB.rnd) = (fun x : T3 => x.1) from rfl]
    exact hs.lv
  · obtain ⟨q, hq, rfl⟩ := List.mem_map.mp hp
    exact hs.ov q hq
  · obtain ⟨q, hq, rfl⟩ := List.mem_map.mp hp
    have := hs.ab q hq
    show 1 - q.2.2 = 0 ∨ 1 - q.2.2 = 1
    omega
end
end BB
set_option maxRecDepth 100000
set_option maxHeartbeats 1000000
namespace BB
open PySem PySem.Spec PyProof.Rows L2
local macro_rules | `(tactic| walk_at "d") => `(tactic| simp only [ap_var, ap_c, ap_op, ap_b, ap_chain, ap_isN, ap_notN, ap_not, ap_and, ap_or, ap_notV, ap_andV, ap_orV, ap_if, ap_nil, ap_cons, ap_tup, ap_lst, ap_newL, ap_call, ap_bt, ap_bm, ap_sl, ap_no, ap_some, ap_rev, ap_frz, ap_get2, ap_oneT, ap_newT, ap_newS, ap_dictNew, ap_isi, ap_gset, ap_gend, ap_gmore, ap_gtup, ap_gtup3, ap_gsub, ap_next, ap_seq, ap_drop, ap_ret, ap_retN, ap_brk, ap_cont, ap_ifS, ap_asg, ap_par, ap_par3, ap_aug, ap_onx, ap_ort, ap_it, ap_enum, ap_items, ap_rg1, ap_rg2, ap_zip, ap_eq, ap_ne, ap_i2, ap_arI, ap_addI, ap_addT, ap_addL, ap_ixT, ap_ixL, ap_ix3, ap_wlen, ap_wtup, ap_btN, ap_isiA, ap_callK, ap_callX, ap_lstRg, ap_ixMk, ap_min2, ap_max2, ap_ixDr, ap_gtupDr2, ap_gtupE, ex_at0, ex_at1, ex_at2, ex_bl, ex_int, ex_sli, ex_som, ex_ptr, ex_l1i, ex_l1l, al_l1i, ex_one,
  List.getElem?_cons_zero, List.getElem?_cons_succ, List.set_cons_zero, List.set_cons_succ, List.length_cons, List.length_nil, deq_int, deq_str, deq_e3, vw_e3, vw_i, vw_t, vw_l, vw_s, vw_n, vw_b, true_and, and_true, sh_i64, sh_n64, List.nil_append, List.cons_append, isN_n, isN_i, isN_t, isN_l, isN_b, isN_p, isNon_e3, Bool.not_false, Bool.not_true, if_true, if_false, Bool.false_eq_true, decide_eq_true_eq, ite_true, ite_false, Bool.not_eq_true', decide_eq_false_iff_not, vw_sh, vw_st, ap_ixSh, ap_ixD, ap_ixSt, sh_t3, ap_gtupD, vw_eD, wipeD, reduceIte, Bool.true_eq_false])
theorem bel_eDr (n : Nat) (d : Drop) : bel n (eDr d) := (bel_tup _ _).mpr fun x hx => by
  simp only [List.mem_cons, List.not_mem_nil, or_false] at hx
  rcases hx with rfl | rfl | rfl
  · exact bel_int _ _
  · exact bel_e3 _ _
  · exact bel_int _ _
theorem sp_law_drop : ∀ (ds : List D) st' Q, ds.length = 3 → WfS st' → F_law_drop ds st' Q → b_law_drop (endsOf st'.length Q) ⟨startD 3 ds, st'⟩ := by
  rintro ds st Q hl wf ⟨j, ns, k, c, L, C, T, rfl, hj, hL, hL2, hC, hC2, hT, h⟩
  show b_law_drop _ ⟨[some (.ptr j), some (eSh L C), some (.int (T : Int))], st⟩
  unfold b_law_drop
  walk_at "d"
  refine draw_st hj (by omega) (by omega) fun r k1 c1 h0 h1 => ?_
  have hjl := (List.getElem?_eq_some_iff.mp hj).1
  refine ⟨j, ns, k1, c1, L, C, rfl, List.getElem?_set_self hjl, hL, hL2, hC, hC2, fun x k2 c2 hx => ?_⟩
  rw [List.set_set]
  refine draw_set hj (by omega) (by omega) fun r2 k3 c3 h2 h3 => ?_
  refine ⟨by decide, draw_set hj (by omega) (by omega) fun r3 k4 c4 h4 h5 => ?_⟩
  have fin : ∀ w : Int, 1 ≤ w → w ≤ 400 → retOk st.length Q (.tup [.int r, e3 x, .int w]) (st.set j (tapeC ns k4 c4)) := fun w w0 w1 =>
    ret_set0 wf (belC_tape _ _ _ _) (bel_eDr _ ⟨r, x, w⟩) (h ⟨r, x, w⟩ _ _ ⟨h0, by show r ≤ (T : Int); omega, hx, w0, w1⟩)
  rcases (show r3 = 0 ∨ r3 = 1 ∨ r3 = 2 ∨ r3 = 3 by omega) with rfl | rfl | rfl | rfl
  · rw [ap_ixL, atI_0]; exact ⟨_, rfl, by decide, fin 1 (by decide) (by decide)⟩
  · rw [ap_ixL, atI_1]; exact ⟨_, rfl, by decide, fin 3 (by decide) (by decide)⟩
  · rw [ap_ixL, atI_2]; exact ⟨_, rfl, by decide, fin 400 (by decide) (by decide)⟩
  · rw [ap_ixL, show atI [D.int 1, .int 3, .int 400, .int (1 + r2)] 3 = some (.int (1 + r2)) from rfl]; exact ⟨_, rfl, by decide, fin (1 + r2) (by omega) (by omega)⟩
theorem ap_ixNm (m : Nm) (i : Int) {st : List Cell} {Z : D → Prop} : wIxA (eNm m) (.int i) st Z = ∃ d, atI [.tup (m.l.map fun (i : Nat) => D.int (i : Int)), .bl m.t, .int (m.w : Int), .bl m.b] i = some d ∧ Z d := ap_ixT _ _
theorem nm_leaf {m : Nm} {i : Int} (h0 : 0 ≤ i) (h1 : i < (m.l.length : Int)) : atI (m.l.map fun (i : Nat) => D.int (i : Int)) i = some (.int (m.leaf i)) := by
  obtain ⟨k, rfl⟩ := Int.eq_ofNat_of_zero_le h0
  have hk : k < m.l.length := by omega
  rw [atI_map, atI_nat _ _ hk]
  unfold Nm.leaf
  rw [Int.toNat_natCast, List.getD_eq_getElem?_getD, List.getElem?_eq_getElem hk]; rfl
theorem sp_law_named : ∀ (ds : List D) st' Q, ds.length = 2 → WfS st' → F_law_named ds st' Q → b_law_named (endsOf st'.length Q) ⟨startD 8 ds, st'⟩ := by
  rintro ds st Q hl wf ⟨m, x, rfl, h0, h1, h⟩
  show b_law_named _ ⟨[some (eNm m), some (e3 x), none, none, none, none, none, none], st⟩
  unfold b_law_named
  walk_at "d"
  rw [ap_ixNm]
  refine ⟨_, rfl, ?_⟩
  rw [ap_ixT, nm_leaf h0 h1]
  refine ⟨_, rfl, ?_⟩
  rw [ap_ixNm]
  refine ⟨_, rfl, ?_⟩
  rw [ap_ixNm]
  refine ⟨_, rfl, ?_⟩
  refine ⟨_, _, _, rfl, _, rfl, ?_⟩
  simp only [ap_ixNm]
  refine ite_dec (fun h2 => ?_) (fun h2 => ?_)
  · refine ⟨_, rfl, ?_⟩
    walk_at "d"
    refine ite_dec (fun h3 => ?_) (fun h3 => ?_)
    · refine ⟨by decide, ?_⟩
      refine ret_same wf (bel_e3 _ (_, _, _)) ?_
      unfold Nm.spot Nm.side Nm.cell at h
      rw [if_pos h2, if_pos h3] at h
      exact h
    · refine ⟨by decide, ?_⟩
      refine ret_same wf (bel_e3 _ (_, _, _)) ?_
      unfold Nm.spot Nm.side Nm.cell at h
      rw [if_pos h2, if_neg h3] at h
      exact h
  · refine ⟨_, rfl, ?_⟩
    walk_at "d"
    refine ite_dec (fun h3 => ?_) (fun h3 => ?_)
    · refine ⟨by decide, ?_⟩
      refine ret_same wf (bel_e3 _ (_, _, _)) ?_
      unfold Nm.spot Nm.side Nm.cell at h
      rw [if_neg h2, if_pos h3] at h
      exact h
    · refine ⟨by decide, ?_⟩
      refine ret_same wf (bel_e3 _ (_, _, _)) ?_
      unfold Nm.spot Nm.side Nm.cell at h
      rw [if_neg h2, if_neg h3] at h
      exact h

theorem rev_map3 (s : Stand) : (s.map e3).reverse = s.reverse.map e3 := List.map_reverse.symm
theorem sp_law_mirrored : ∀ (ds : List D) st' Q, ds.length = 2 → WfS st' → F_law_mirrored ds st' Q → b_law_mirrored (endsOf st'.length Q) ⟨startD 5 ds, st'⟩ := by
  rintro ds st Q hl wf ⟨L, C, s, rfl, hs, h⟩
  show b_law_mirrored _ ⟨[some (eSh L C), some (eSt s), none, none, none], st⟩
  unfold b_law_mirrored
  walk_at "d"
  refine dLc_map (α := T3) (l := s.reverse) (e := e3) (f := fun p => e3 (flp p)) (fun W hW => ?_) (fun p hp P hP => ?_) ?_
  · walk_at "d"
    rw [rev_map3]
    exact hW
  · walk_at "d"
    exact ⟨by decide, hP _ rfl⟩
  · walk_at "d"
    have e : (s.reverse.map fun p => e3 (flp p)) = (mirS s).map e3 := by rw [mirS_eq, List.map_map]; rfl
    rw [e]
    exact ret_same wf (bel_st _ _) h
theorem sp_law_lying : ∀ (ds : List D) st' Q, ds.length = 2 → WfS st' → F_law_lying ds st' Q → b_law_lying (endsOf st'.length Q) ⟨startD 6 ds, st'⟩ := by
  rintro ds st Q hl wf ⟨m, s, rfl, hb, hs, h⟩
  show b_law_lying _ ⟨[some (eNm m), some (eSt s), none, none, none, none], st⟩
  unfold b_law_lying
  walk_at "d"
  have sz := sz1000
  refine ⟨by decide, ?_⟩
  refine dFor_pre (α := T3) (l := s) (e := e3) (fun done ρ' => ∃ x y z, ρ' = ⟨[some (eNm m), some (eSt s), some (.ptr st.length), x, y, z], st ++ [.lst ((done.map m.lie).map e3)]⟩) (fun W hW => ?_) ⟨none, none, none, rfl⟩ ?_ ?_
  · walk_at "d"
    exact hW
  · rintro done p rest ρ' e ⟨x, y, z, rfl⟩
    walk_at "d"
    have hp := hb p (by rw [e]; simp)
    have hlen : done.length < s.length := by rw [e]; simp
    refine ⟨isL_new, ?_⟩
    rw [ap_ixNm]
    refine ⟨_, rfl, ?_⟩
    rw [ap_ixT, nm_leaf hp.1 hp.2]
    refine ⟨_, rfl, ?_⟩
    rw [ap_ixNm]
    refine ⟨_, rfl, _, rfl, ?_⟩
    simp only [ap_ixNm]
    have fin : ∀ b c : Int, b = m.side p.2.1 → c = (if m.b = true then 1 - p.2.2 else p.2.2) → 0 + 1 + 1 + 1 ≤ sizeLine ∧ wApp (.ptr st.length) [.tup [.int (m.leaf p.1), .int b, .int c]] (st ++ [.lst ((done.map m.lie).map e3)]) fun _ st2 =>
        ∃ x y z, (⟨[some (eNm m), some (eSt s), some (.ptr st.length), some (.int p.1), some (.int p.2.1), some (.int p.2.2)], st2⟩ : DS) = ⟨[some (eNm m), some (eSt s), some (.ptr st.length), x, y, z], st ++ [.lst (((done ++ [p]).map m.lie).map e3)]⟩ := fun b c eb ec => by
      subst eb; subst ec
      refine ⟨by decide, wApp_new (by simp; omega) ?_⟩
      refine ⟨some (.int p.1), some (.int p.2.1), some (.int p.2.2), ?_⟩
      rw [List.map_append, List.map_append]
      rfl
    have hsd : ∀ b : Bool, m.t = b → m.side p.2.1 = if b = true then 1 - p.2.1 else p.2.1 := fun b e => by unfold Nm.side; rw [e]
    refine ite_dec (fun h2 => ?_) (fun h2 => ?_)
    · refine ⟨_, rfl, _, rfl, ite_dec (fun h3 => ?_) (fun h3 => ?_)⟩
      · exact fin _ _ (by unfold Nm.side; rw [if_pos h2]) (by rw [if_pos h3])
      · exact fin _ _ (by unfold Nm.side; rw [if_pos h2]) (by rw [if_neg h3])
    · refine ⟨_, rfl, _, rfl, ite_dec (fun h3 => ?_) (fun h3 => ?_)⟩
      · exact fin _ _ (by unfold Nm.side; rw [if_neg h2]) (by rw [if_pos h3])
      · exact fin _ _ (by unfold Nm.side; rw [if_neg h2]) (by rw [if_neg h3])
  · rintro ρ' ⟨x, y, z, rfl⟩
    walk_at "d"
    rw [vw_cell (app_get _ _)]
    exact ret_app wf (bel_st _ _) h

def rowKs : List D := [.str "press", .str "swap", .str "over", .str "about"]
def rowVs (L : Nat) : List D := [.int ((L : Int) - 2), .int ((L : Int) - 2), .int ((L : Int) - 1), .int ((L : Int) - 1)]
def lastW (L : Nat) : Deed → Int
  | .press _ => (L : Int) - 2
  | .swap _ => (L : Int) - 2
  | .over _ => (L : Int) - 1
  | .about _ => (L : Int) - 1
  | .wait _ => 0
theorem look_row (L : Nat) (d : Deed) (h : d.word ≠ "wait") : lookD rowKs (rowVs L) (.str d.word) = some (.int (lastW L d)) := by
  cases d with
  | wait n => exact absurd rfl h
  | press n => rfl
  | swap n => rfl
  | over n => rfl
  | about n => rfl
theorem ix_row {L : Nat} {d : Deed} (h : d.word ≠ "wait") {st : List Cell} {Z : D → Prop} (hz : Z (.int (lastW L d))) : wIxA (.dcs rowKs (rowVs L)) (.str d.word) st Z :=
  .inr ⟨rowKs, rowVs L, _, rfl, ⟨_, rfl⟩, look_row L d h, hz⟩
theorem mir_enc {L : Nat} {d : Deed} (h : d.word ≠ "wait") (hd : okDeed L d) : D.tup [.str d.word, .int (lastW L d - (d.num : Int))] = eD (mirD L d) := by
  cases d with
  | wait n => exact absurd rfl h
  | press n =>
    have hd : n + 1 < L := hd
    show D.tup [.str "press", .int ((L : Int) - 2 - (n : Int))] = D.tup [.str "press", .int ((L - 2 - n : Nat) : Int)]
    rw [show ((L - 2 - n : Nat) : Int) = (L : Int) - 2 - n by omega]
  | swap n =>
    have hd : n + 1 < L := hd
    show D.tup [.str "swap", .int ((L : Int) - 2 - (n : Int))] = D.tup [.str "swap", .int ((L - 2 - n : Nat) : Int)]
    rw [show ((L - 2 - n : Nat) : Int) = (L : Int) - 2 - n by omega]
  | over n =>
    have hd : n < L := hd
    show D.tup [.str "over", .int ((L : Int) - 1 - (n : Int))] = D.tup [.str "over", .int ((L - 1 - n : Nat) : Int)]
    rw [show ((L - 1 - n : Nat) : Int) = (L : Int) - 1 - n by omega]
  | about n =>
    have hd : n < L := hd
    show D.tup [.str "about", .int ((L : Int) - 1 - (n : Int))] = D.tup [.str "about", .int ((L - 1 - n : Nat) : Int)]
    rw [show ((L - 1 - n : Nat) : Int) = (L : Int) - 1 - n by omega]
theorem ap_disp (r : List (DE × DE)) {ρ : DS} {Q : D → DS → Prop} : dDisp r ρ Q = dPairs r ρ fun ps ρ' => (∀ p ∈ ps, isKeyS p.1) ∧ ps.length ≤ 15 ∧ (ps.map fun p => keyD p.1).Nodup ∧ Q (.ptr ρ'.st.length) ⟨ρ'.sl, ρ'.st ++ [.dcs (ps.map (·.1)) (ps.map (·.2))]⟩ := rfl
theorem sp_law_mirrored_row : ∀ (ds : List D) st' Q, ds.length = 2 → WfS st' → F_law_mirrored_row ds st' Q → b_law_mirrored_row (endsOf st'.length Q) ⟨startD 6 ds, st'⟩ := by
  rintro ds st Q hl wf ⟨L, C, r, rfl, hb, hs, h⟩
  show b_law_mirrored_row _ ⟨[some (eSh L C), some (eR r), none, none, none, none], st⟩
  unfold b_law_mirrored_row
  walk_at "d"
  have sz := sz1000
  refine ⟨by decide, ?_⟩
  refine dFor_pre (α := Deed) (l := r) (e := eD) (fun done ρ' => ∃ x y z more, ρ' = ⟨[some (eSh L C), some (eR r), some (.ptr st.length), x, y, z], st ++ .lst ((done.map (mirD L)).map eD) :: more⟩) (fun W hW => ?_) ⟨none, none, none, [], rfl⟩ ?_ ?_
  · walk_at "d"
    exact hW
  · rintro done d rest ρ' e ⟨x, y, z, more, rfl⟩
    walk_at "d"
    rw [ap_disp]
    simp only [dPairs]
    generalize hA : st ++ Cell.lst ((done.map (mirD L)).map eD) :: more = A
    walk_at "d"
    refine ⟨fun p hp => by
      simp only [List.mem_cons, List.not_mem_nil, or_false] at hp
      rcases hp with rfl | rfl | rfl | rfl <;> exact ⟨_, rfl⟩, by decide, ?_, ?_⟩
    · show [keyD (.str "press"), keyD (.str "swap"), keyD (.str "over"), keyD (.str "about")].Nodup
      decide +kernel
    rw [app_get]
    simp only [app_set]
    have hlen : done.length < r.length := by rw [e]; simp
    have hcell : (A ++ [Cell.dead])[st.length]? = some (.lst ((done.map (mirD L)).map eD)) := by
      rw [← hA, List.append_assoc, List.getElem?_append_right (Nat.le_refl _)]; simp
    have happ : ∀ y : D, y = eD (mirD L d) → wApp (.ptr st.length) [y] (A ++ [Cell.dead]) fun _ st2 => ∃ x y z more, (⟨[some (eSh L C), some (eR r), some (.ptr st.length), some (.str d.word), some (.int (d.num : Int)), some (.dcs rowKs (rowVs L))], st2⟩ : DS) =
        ⟨[some (eSh L C), some (eR r), some (.ptr st.length), x, y, z], st ++ Cell.lst (((done ++ [d]).map (mirD L)).map eD) :: more⟩ := fun y ey => by
      subst ey
      refine ⟨_, _, _, rfl, rfl, hcell, by simp; omega, some (.str d.word), some (.int (d.num : Int)), some (.dcs rowKs (rowVs L)), more ++ [.dead], ?_⟩
      congr 1
      rw [← hA, List.append_assoc, List.set_append_right _ _ (Nat.le_refl _)]
      simp
    refine ⟨⟨_, vw_cell hcell⟩, sh_word d, sh_wait, ?_⟩
    refine ite_dec (fun h1 => ?_) (fun h1 => ?_)
    · refine ⟨by decide, happ _ ?_⟩
      cases d with
      | wait n => rfl
      | press n => exact absurd h1 ne_pw
      | swap n => exact absurd h1 ne_sw
      | over n => exact absurd h1 ne_ow
      | about n => exact absurd h1 ne_aw
    · refine ix_row h1 ?_
      walk_at "d"
      exact ⟨by decide, happ _ (mir_enc h1 (hb d (by rw [e]; simp)))⟩
  · rintro ρ' ⟨x, y, z, more, rfl⟩
    walk_at "d"
    rw [List.getElem?_append_right (Nat.le_refl _), Nat.sub_self]
    have es : (st ++ Cell.lst ((r.map (mirD L)).map eD) :: more).set st.length Cell.dead = st ++ Cell.dead :: more := by rw [List.set_append_right _ _ (Nat.le_refl _)]; simp
    rw [es]
    exact ret_app wf (bel_eR _ _) h
end BB
set_option maxRecDepth 100000
/-! k11: papers, over plain data; what the defs promise. -/
namespace BB
open PySem PySem.Spec PyProof.Rows L2
def F_is_spot : FS := fun ds st Q => ∃ (L C : Nat) (x : T3), ds = [eSh L C, e3 x] ∧ x ∈ box L 2 C ∧ Q (.bl true) st
def F_spots : FS := fun ds st Q => ∃ (L C : Nat), ds = [eSh L C] ∧ L ≤ 100 ∧ C ≤ 100 ∧ Q (.lst ((box L 2 C).map e3)) st
def LyOk (L : Nat) (p : T3) : Prop := (0 ≤ p.1 ∧ p.1 < L) ∧ (p.2.1 = 0 ∨ p.2.1 = 1) ∧ (p.2.2 = 0 ∨ p.2.2 = 1)
def F_is_lying : FS := fun ds st Q => ∃ (L C : Nat) (p : T3), ds = [eSh L C, e3 p] ∧ LyOk L p ∧ Q (.bl true) st
def F_is_stand : FS := fun ds st Q => ∃ (L C : Nat) (s : Stand), ds = [eSh L C, eSt s] ∧ L ≤ 2 ∧ OkSt L s ∧ Q (.bl true) st
def b01 : List Int := [0, 1]
/-- all stands of at most two leaves, rising -/
def stands (L : Nat) : List Stand := if L = 1 then b01.flatMap fun o => b01.map fun a => [(0, o, a)] else b01.flatMap fun l => b01.flatMap fun o => b01.flatMap fun a => b01.flatMap fun o2 => b01.map fun a2 => [(l, o, a), (1 - l, o2, a2)]
def F_all_stands : FS := fun ds st Q => ∃ (L C : Nat), ds = [eSh L C] ∧ 1 ≤ L ∧ L ≤ 2 ∧ Q (.lst ((stands L).map eSt)) st
def statesM (L C : Nat) : List State := (stands L).flatMap fun s => (box L 2 C).map fun x => (s, x)
def F_states : FS := fun ds st Q => ∃ (L C : Nat), ds = [eSh L C] ∧ 1 ≤ L ∧ L ≤ 2 ∧ C ≤ 3 ∧ Q (.lst ((statesM L C).map eSta)) st
def FX_looked (ds : List D) (st : List Cell) (Q : D → List Cell → Prop) (Z : List Cell → Prop) : Prop := ∃ (L C : Nat), ds = [eSh L C] ∧ ((L ≤ 2 ∧ C ≤ 3 ∧ Q .non st) ∨ ((2 < L ∨ 3 < C) ∧ Z st))
abbrev FoundN := List (State × Int)
def eFN (m : FoundN) : Cell := .dct (kD eSta m) (vD .int m)
def nearsM (L C : Nat) (m : FoundN) (z : State) : Bool := (deedsM L).any fun d => (laterM C z.1 z.2 d).any fun y => (aget m y).isSome
def F_nears : FS := fun ds st Q => ∃ (L C : Nat) (j : Nat) (m : FoundN) (z : State), ds = [eSh L C, .ptr j, eSta z] ∧ st[j]? = some (eFN m) ∧ 1 ≤ L ∧ L ≤ 2 ∧ C ≤ 3 ∧ Good L C z ∧ Q (.bl (nearsM L C m z)) st
/-- the goal is come to by at most so many deeds -/
def nearB (L C : Nat) (g : T3) : Nat → State → Bool
  | 0, z => decide (z.2 = g)
  | n + 1, z => nearB L C g n z || (deedsM L).any fun d => (laterM C z.1 z.2 d).any fun y => nearB L C g n y
/-- num tells of each state by how many deeds the goal is come to -/
def IsDist (L C : Nat) (g : T3) (num : State → Option Nat) : Prop := ∀ z ∈ statesM L C, ∀ n, num z = some n ↔ nearB L C g n z = true ∧ ∀ k, k < n → nearB L C g k z = false
def eON : Option Nat → D
  | some n => .int (n : Int)
  | none => .non
def eEn (num : State → Option Nat) (z : State) : D := .tup [eSt z.1, e3 z.2, eON (num z)]
def FX_far_paper (ds : List D) (st : List Cell) (Q : D → List Cell → Prop) (Z : List Cell → Prop) : Prop := ∃ (L C : Nat) (g : T3), ds = [eSh L C, e3 g] ∧ (((1 ≤ L ∧ L ≤ 2 ∧ C ≤ 3 ∧ g ∈ box L 2 C) ∧ ∀ num, IsDist L C g num → Q (.tup ((statesM L C).map (eEn num))) st) ∨ ((2 < L ∨ 3 < C) ∧ Z st))
def F_is_entry : FS := fun ds st Q => ∃ (L C : Nat) (num : State → Option Nat) (z : State), ds = [eSh L C, eEn num z] ∧ L ≤ 2 ∧ Good L C z ∧ Q (.bl true) st
def FX_is_far_paper (ds : List D) (st : List Cell) (Q : D → List Cell → Prop) (Z : List Cell → Prop) : Prop := ∃ (L C : Nat) (g : T3) (num : State → Option Nat), ds = [eSh L C, e3 g, .tup ((statesM L C).map (eEn num))] ∧ (1 ≤ L ∧ L ≤ 2 ∧ C ≤ 3) ∧ IsDist L C g num ∧ Q (.bl true) st
def F_law_rises : FS := fun ds st Q => ∃ (l : List State), ds = [.lst (l.map eSta)] ∧ l.length ≤ 1000 ∧ (∀ z ∈ l, z.1.length ≤ 2) ∧ l.Pairwise (fun a b => dlt (eSta a) (eSta b) = true) ∧ (∀ a ∈ l, ∀ b ∈ l, dalike (eSta a) (eSta b) = true) ∧ Q (.bl true) st
end BB
namespace BB
open PySem PySem.Spec PyProof.Rows L2
def F_ref11 : FS := fun ds st Q => ∃ (L C : Nat) (x : T3), ds = [eSh L C, e3 x] ∧ (2 < L ∨ 3 < C) ∧ Q (.tup [.str "many", .int 2]) st
end BB
set_option maxRecDepth 100000
set_option maxHeartbeats 1000000
namespace BB
open PySem PySem.Spec PyProof.Rows L2
local macro_rules | `(tactic| walk_at "d") => `(tactic| simp only [ap_var, ap_c, ap_op, ap_b, ap_chain, ap_isN, ap_notN, ap_not, ap_and, ap_or, ap_notV, ap_andV, ap_orV, ap_if, ap_nil, ap_cons, ap_tup, ap_lst, ap_newL, ap_call, ap_bt, ap_bm, ap_sl, ap_no, ap_some, ap_rev, ap_frz, ap_get2, ap_oneT, ap_newT, ap_newS, ap_dictNew, ap_isi, ap_gset, ap_gend, ap_gmore, ap_gtup, ap_gtup3, ap_gsub, ap_next, ap_seq, ap_drop, ap_ret, ap_retN, ap_brk, ap_cont, ap_ifS, ap_asg, ap_par, ap_par3, ap_aug, ap_onx, ap_ort, ap_it, ap_enum, ap_items, ap_rg1, ap_rg2, ap_zip, ap_eq, ap_ne, ap_i2, ap_arI, ap_addI, ap_addT, ap_addL, ap_ixT, ap_ixL, ap_ix3, ap_wlen, ap_wtup, ap_btN, ap_isiA, ap_callK, ap_callX, ap_lstRg, ap_ixMk, ap_min2, ap_max2, ap_ixDr, ap_gtupDr2, ap_gtupE, ex_at0, ex_at1, ex_at2, ex_bl, ex_int, ex_sli, ex_som, ex_ptr, ex_l1i, ex_l1l, al_l1i, ex_one,
  List.getElem?_cons_zero, List.getElem?_cons_succ, List.set_cons_zero, List.set_cons_succ, List.length_cons, List.length_nil, deq_int, deq_str, deq_e3, vw_e3, vw_i, vw_t, vw_l, vw_s, vw_n, vw_b, true_and, and_true, sh_i64, sh_n64, List.nil_append, List.cons_append, isN_n, isN_i, isN_t, isN_l, isN_b, isN_p, isNon_e3, Bool.not_false, Bool.not_true, if_true, if_false, Bool.false_eq_true, decide_eq_true_eq, ite_true, ite_false, Bool.not_eq_true', decide_eq_false_iff_not, vw_sh, vw_st, ap_ixSh, ap_ixD, ap_ixSt, sh_t3, ap_gtupD, vw_eD, wipeD, reduceIte, Bool.true_eq_false])
/-! ### the goal, by at most so many deeds -/
section
variable {L C : Nat} {g : T3}
theorem near_succ {n : Nat} {z : State} : nearB L C g (n + 1) z = true ↔ nearB L C g n z = true ∨ ∃ d ∈ deedsM L, ∃ y ∈ laterM C z.1 z.2 d, nearB L C g n y = true := by
  show (nearB L C g n z || _) = true ↔ _
  rw [Bool.or_eq_true, List.any_eq_true]
  simp only [List.any_eq_true]
theorem near_mono {n m : Nat} (h : n ≤ m) {z : State} (hz : nearB L C g n z = true) : nearB L C g m z = true := by
  induction m with
  | zero => rw [Nat.le_zero.mp h] at hz; exact hz
  | succ m ih =>
    by_cases e : n = m + 1
    · rw [e] at hz; exact hz
    · exact near_succ.mpr (.inl (ih (by omega)))
end
/-! ### a run is near -/
section
variable {L C : Nat} {g : T3}
theorem next_later {s : Stand} {x : T3} {d : Deed} {w : State} (h : nextL C s x d = some w) : w ∈ laterM C s x d := by
  unfold nextL at h
  unfold laterM
  cases q : isPress d with
  | none =>
    rw [q] at h
    simp only at h ⊢
    have := Option.some.inj h
    subst this
    exact List.mem_cons_self
  | some k =>
    rw [q] at h
    simp only at h ⊢
    cases q2 : partM (pairsAt C s k) x with
    | none => rw [q2] at h; cases h
    | some t =>
      rw [q2] at h
      have := Option.some.inj h
      subst this
      simp
theorem near_run : ∀ (r : List Deed) (z w : State) (n : Nat), runL C r z = some w → (∀ d ∈ r, d ∈ deedsM L) → nearB L C g n w = true → nearB L C g (n + r.length) z = true
  | [], z, w, n, h, _, hn => by
    have := Option.some.inj h
    subst this
    exact hn
  | d :: r, z, w, n, h, hd, hn => by
    have h : (nextL C z.1 z.2 d).bind (runL C r) = some w := h
    cases q : nextL C z.1 z.2 d with
    | none => rw [q] at h; cases h
    | some y =>
      rw [q] at h
      have h2 := near_run r y w n h (fun e he => hd e (List.mem_cons_of_mem _ he)) hn
      exact near_succ.mpr (.inr ⟨d, hd d List.mem_cons_self, y, next_later q, h2⟩)
theorem run_good : ∀ (r : List Deed) (z w : State), runL C r z = some w → (∀ d ∈ r, d ∈ deedsM L) → Good L C z → Good L C w
  | [], z, w, h, _, hz => by
    have := Option.some.inj h
    subst this
    exact hz
  | d :: r, z, w, h, hd, hz => by
    have h : (nextL C z.1 z.2 d).bind (runL C r) = some w := h
    cases q : nextL C z.1 z.2 d with
    | none => rw [q] at h; cases h
    | some y =>
      rw [q] at h
      exact run_good r y w h (fun e he => hd e (List.mem_cons_of_mem _ he)) (later_good hz (deeds_ok (hd d List.mem_cons_self)) (next_later q))
theorem run_app : ∀ (r t : List Deed) (z : State), runL C (r ++ t) z = (runL C r z).bind (runL C t)
  | [], t, z => rfl
  | d :: r, t, z => by
    show (nextL C z.1 z.2 d).bind (runL C (r ++ t)) = ((nextL C z.1 z.2 d).bind (runL C r)).bind (runL C t)
    cases nextL C z.1 z.2 d with
    | none => rfl
    | some y => exact run_app r t y
/-! ### what the search did not find -/
theorem foldM_all {α β ε : Type} {f : β → α → Except ε β} {R : β → β → Prop} {P : α → β → Prop} (refl : ∀ q, R q q) (trans : ∀ {a b c}, R a b → R b c → R a c) (mono : ∀ {a q q'}, R q q' → P a q → P a q') : ∀ (l : List α) (q q' : β), (∀ a ∈ l, ∀ q q', f q a = .ok q' → R q q' ∧ P a q') → l.foldlM f q = .ok q' → R q q' ∧ ∀ a ∈ l, P a q'
  | [], q, q', _, h => by
    have h : (Except.ok q : Except ε β) = .ok q' := h
    cases h
    exact ⟨refl _, fun a ha => (nomatch ha)⟩
  | a :: l, q, q', st, h => by
    rw [List.foldlM_cons] at h
    cases e : f q a with
    | error r => rw [e] at h; cases h
    | ok q1 =>
      rw [e] at h
      obtain ⟨h1, h2⟩ := st a List.mem_cons_self q q1 e
      obtain ⟨h3, h4⟩ := foldM_all (R := R) (P := P) refl trans mono l q1 q' (fun b hb => st b (List.mem_cons_of_mem _ hb)) h
      refine ⟨trans h1 h3, fun b hb => ?_⟩
      rcases List.mem_cons.mp hb with rfl | hb
      · exact mono h3 h2
      · exact h4 b hb
structure Ext (g : T3) (q q' : SeenM × List Node) : Prop where
  sn : ∀ y, (aget q.1 y).isSome = true → (aget q'.1 y).isSome = true
  nw : ∀ y, (aget q'.1 y).isSome = true → (aget q.1 y).isSome = true ∨ ∃ n ∈ q'.2, n.2 = y
  rw_ : ∀ n ∈ q.2, n ∈ q'.2
  ng : (∀ y, (aget q.1 y).isSome = true → y.2 ≠ g) → ∀ y, (aget q'.1 y).isSome = true → y.2 ≠ g
theorem Ext.refl (q : SeenM × List Node) : Ext g q q := ⟨fun _ h => h, fun _ h => .inl h, fun _ h => h, fun h => h⟩
theorem Ext.trans {a b c : SeenM × List Node} (h : Ext g a b) (k : Ext g b c) : Ext g a c := ⟨fun y q => k.sn y (h.sn y q), fun y q => by
  rcases k.nw y q with q | q
  · rcases h.nw y q with q | ⟨n, hn, e⟩
    · exact .inl q
    · exact .inr ⟨n, k.rw_ n hn, e⟩
  · exact .inr q, fun n hn => k.rw_ n (h.rw_ n hn), fun q => k.ng (h.ng q)⟩
theorem vis_ext {done : List Deed} {d : Deed} {q q' : SeenM × List Node} {z : State} (h : visS g done d q z = .ok q') : Ext g q q' ∧ (aget q'.1 z).isSome = true := by
  unfold visS at h
  by_cases h1 : z.2 = g
  · rw [if_pos h1] at h; cases h
  · rw [if_neg h1] at h
    by_cases h2 : (aget q.1 z).isSome = true
    · rw [if_pos h2] at h
      cases h
      exact ⟨.refl _, h2⟩
    · rw [if_neg h2] at h
      cases h
      refine ⟨⟨fun y hy => ?_, fun y hy => ?_, fun n hn => List.mem_append_left _ hn, fun hq y hy => ?_⟩, ?_⟩
      · exact some_put hy
      · have hy : (aget (aput q.1 z true) y).isSome = true := hy
        rw [aget_put] at hy
        by_cases e : z = y
        · exact .inr ⟨_, List.mem_append_right _ List.mem_cons_self, e⟩
        · rw [if_neg e] at hy; exact .inl hy
      · have hy : (aget (aput q.1 z true) y).isSome = true := hy
        rw [aget_put] at hy
        by_cases e : z = y
        · rw [← e]; exact h1
        · rw [if_neg e] at hy; exact hq y hy
      · show (aget (aput q.1 z true) z).isSome = true
        rw [aget_put, if_pos rfl]; rfl
theorem turn_ext {q q' : SeenM × List Node} (h : turnX (stepP C g) L q = .ok q') : Ext g (q.1, []) q' ∧ ∀ n ∈ q.2, ∀ d ∈ deedsM L, ∀ w ∈ laterM C n.2.1 n.2.2 d, (aget q'.1 w).isSome = true := by
  have mono1 : ∀ {a : State} {q q' : SeenM × List Node}, Ext g q q' → (aget q.1 a).isSome = true → (aget q'.1 a).isSome = true := fun e h => e.sn _ h
  refine foldM_all (R := Ext g) (P := fun (n : Node) q' => ∀ d ∈ deedsM L, ∀ w ∈ laterM C n.2.1 n.2.2 d, (aget q'.1 w).isSome = true) Ext.refl (fun a b => a.trans b) (fun e h d hd w hw => e.sn _ (h d hd w hw)) q.2 (q.1, []) q' (fun n hn a b hab => ?_) h
  refine foldM_all (R := Ext g) (P := fun (d : Deed) q' => ∀ w ∈ laterM C n.2.1 n.2.2 d, (aget q'.1 w).isSome = true) Ext.refl (fun a b => a.trans b) (fun e h w hw => e.sn _ (h w hw)) (deedsM L) a b (fun d hd a b hab => ?_) hab
  exact foldM_all (R := Ext g) (P := fun (w : State) q' => (aget q'.1 w).isSome = true) Ext.refl (fun a b => a.trans b) (fun e h => e.sn _ h) (laterM C n.2.1 n.2.2 d) a b (fun w hw a b hab => vis_ext hab) hab
structure Sv (L C : Nat) (g : T3) (q : SeenM × List Node) : Prop where
  ng : ∀ y, (aget q.1 y).isSome = true → y.2 ≠ g
  cl : ∀ y, (aget q.1 y).isSome = true → (∃ n ∈ q.2, n.2 = y) ∨ ∀ d ∈ deedsM L, ∀ w ∈ laterM C y.1 y.2 d, (aget q.1 w).isSome = true
theorem loop_sv : ∀ (n : Nat) (q q' : SeenM × List Node), Sv L C g q → loopX (stepP C g) L n q = .ok q' → ∀ y, (aget q.1 y).isSome = true → nearB L C g n y = false
  | 0, q, q', h, _, y, hy => by
    show decide (y.2 = g) = false
    exact decide_eq_false (h.ng y hy)
  | n + 1, q, q', h, e, y, hy => by
    have e : (turnX (stepP C g) L q >>= loopX (stepP C g) L n) = .ok q' := e
    cases e1 : turnX (stepP C g) L q with
    | error r => rw [e1] at e; cases e
    | ok q1 =>
      rw [e1] at e
      obtain ⟨x1, x2⟩ := turn_ext e1
      have key : ∀ y, (aget q.1 y).isSome = true → ∀ d ∈ deedsM L, ∀ w ∈ laterM C y.1 y.2 d, (aget q1.1 w).isSome = true := fun y hy d hd w hw => by
        rcases h.cl y hy with ⟨m, hm, em⟩ | k
        · rw [← em] at hw; exact x2 m hm d hd w hw
        · exact x1.sn _ (k d hd w hw)
      have s1 : Sv L C g q1 := ⟨x1.ng h.ng, fun y hy => by
        rcases x1.nw y hy with q | q
        · exact .inr (key y q)
        · exact .inl q⟩
      have ih := loop_sv n q1 q' s1 e
      cases q5 : nearB L C g (n + 1) y with
      | false => rfl
      | true =>
        rcases near_succ.mp q5 with a | ⟨d, hd, w, hw, a⟩
        · rw [ih y (x1.sn y hy)] at a; cases a
        · rw [ih w (key y hy d hd w hw)] at a; cases a
theorem bring_none {s : Stand} {x : T3} {n : Nat} (hne : x ≠ g) (h : broughtP L C s x g n = none) : nearB L C g n (s, x) = false := by
  unfold broughtP at h
  rw [if_neg hne] at h
  cases e : loopX (stepP C g) L n (startX s x) with
  | error r => rw [e] at h; cases h
  | ok q =>
    have hs : Sv L C g (startX s x) := by
      have one : ∀ y, (aget (startX s x).1 y).isSome = true → y = (s, x) := fun y hy => by
        have hy : (aget [((s, x), true)] y).isSome = true := hy
        unfold aget at hy
        by_cases e : (s, x) = y
        · exact e.symm
        · rw [if_neg e] at hy; cases hy
      exact ⟨fun y hy => by rw [one y hy]; exact hne, fun y hy => .inl ⟨([], s, x), List.mem_cons_self, (one y hy).symm⟩⟩
    refine loop_sv n _ q hs e (s, x) ?_
    show (aget [((s, x), true)] (s, x)).isSome = true
    unfold aget
    rw [if_pos rfl]; rfl
end
end BB
set_option maxRecDepth 100000
/-! Tools, 6: what sorted() gives. -/
namespace BB
open PySem PySem.Spec PyProof.Rows L2
abbrev tk (d : D) : List (Int ⊕ List Nat) := PySem.W.keyToks (py d)
abbrev ltT (a b : List (Int ⊕ List Nat)) : Bool := PyProof.Rows.lexLt itemOrd a b
abbrev leD (a b : D) : Bool := PySem.W.dataLe false py a b
theorem leD_eq (a b : D) : leD a b = !ltT (tk b) (tk a) := rfl
theorem dlt_eq (a b : D) : dlt a b = ltT (tk a) (tk b) := rfl
theorem leD_trans (a b c : D) (h1 : leD a b = true) (h2 : leD b c = true) : leD a c = true := (PySem.W.sortLe_total (listOrd itemOrd) false fun b => PySem.W.keyToks (py b)).trans a b c h1 h2
theorem leD_total (a b : D) : (leD a b || leD b a) = true := by
  rcases (PySem.W.sortLe_total (listOrd itemOrd) false fun b => PySem.W.keyToks (py b)).total a b with h | h
  · rw [show leD a b = true from h]; rfl
  · rw [show leD b a = true from h]; simp
theorem leD_anti {a b : D} (h1 : leD a b = true) (h2 : leD b a = true) : tk a = tk b := by
  rw [leD_eq] at h1 h2
  exact (listOrd itemOrd).total _ _ (by simpa using h2) (by simpa using h1)
theorem sort_uniq {l m : List D} (hp : l.Perm m) (hs : m.Pairwise fun a b => leD a b = true) (inj : ∀ a ∈ m, ∀ b ∈ m, tk a = tk b → a = b) : sortD l = m := by
  unfold sortD
  have p1 := List.mergeSort_perm l (PySem.W.dataLe false py)
  refine List.Perm.eq_of_pairwise (le := fun a b => leD a b = true) (fun a b ha hb h1 h2 => ?_) (List.pairwise_mergeSort leD_trans leD_total l) hs (p1.trans hp)
  exact inj a (hp.mem_iff.mp (p1.mem_iff.mp ha)) b hb (leD_anti h1 h2)
theorem sort_perm {l m : List D} (hp : l.Perm m) (inj : ∀ a ∈ l, ∀ b ∈ l, tk a = tk b → a = b) : sortD l = sortD m := by
  have p1 := List.mergeSort_perm m (PySem.W.dataLe false py)
  refine sort_uniq (hp.trans p1.symm) (List.pairwise_mergeSort leD_trans leD_total m) fun a ha b hb => inj a (hp.mem_iff.mpr (p1.mem_iff.mp ha)) b (hp.mem_iff.mpr (p1.mem_iff.mp hb))
theorem tk_int (i : Int) : tk (.int i) = [.inl i] := by simp [tk, py, PySem.W.keyToks]
theorem tk_nil : tk (.tup []) = [.inl 0] := by simp [tk, py, pys, PySem.W.keyToks, PySem.W.keyToksAll]
theorem tk_cons (a : D) (l : List D) : tk (.tup (a :: l)) = .inl 1 :: (tk a ++ tk (.tup l)) := by simp [tk, py, pys, PySem.W.keyToks, PySem.W.keyToksAll]
theorem tk_e3 (p : T3) : tk (e3 p) = [.inl 1, .inl p.1, .inl 1, .inl p.2.1, .inl 1, .inl p.2.2, .inl 0] := by unfold e3; rw [tk_cons, tk_cons, tk_cons, tk_nil, tk_int, tk_int, tk_int]; rfl
theorem tk_e3_inj {p q : T3} (h : tk (e3 p) = tk (e3 q)) : p = q := by
  rw [tk_e3, tk_e3] at h
  obtain ⟨a, b, c⟩ := p
  obtain ⟨a', b', c'⟩ := q
  simp only [List.cons.injEq, Sum.inl.injEq, and_true, true_and] at h
  obtain ⟨h1, h2, h3⟩ := h
  rw [h1, h2, h3]
theorem tk_stn : tk (eSt []) = [.inl 0] := tk_nil
theorem tk_st (p : T3) (s : Stand) : tk (eSt (p :: s)) = [.inl 1, .inl 1, .inl p.1, .inl 1, .inl p.2.1, .inl 1, .inl p.2.2, .inl 0] ++ tk (eSt s) := by
  show tk (.tup (e3 p :: s.map e3)) = _
  rw [tk_cons, tk_e3]; rfl
theorem tk_st_inj : ∀ {s t : Stand}, tk (eSt s) = tk (eSt t) → s = t
  | [], [], _ => rfl
  | [], q :: t, h => by rw [tk_st, tk_stn] at h; simp at h
  | p :: s, [], h => by rw [tk_st, tk_stn] at h; simp at h
  | p :: s, q :: t, h => by
    rw [tk_st, tk_st] at h
    simp only [List.cons_append, List.nil_append, List.cons.injEq, Sum.inl.injEq, true_and] at h
    obtain ⟨h1, h2, h3, h4⟩ := h
    have := tk_st_inj h4
    obtain ⟨a, b, c⟩ := p
    obtain ⟨a', b', c'⟩ := q
    simp only at h1 h2 h3
    rw [this, h1, h2, h3]
theorem tk_sta (z : State) : tk (eSta z) = .inl 1 :: (tk (eSt z.1) ++ (.inl 1 :: (tk (e3 z.2) ++ [.inl 0]))) := by
  show tk (.tup [eSt z.1, e3 z.2]) = _
  rw [tk_cons, tk_cons, tk_nil]
/-- ints in order -/
theorem sort_ints {l m : List Int} (hp : l.Perm m) (hs : m.Pairwise fun a b => a ≤ b) : sortD (l.map .int) = m.map .int := by
  refine sort_uniq (hp.map _) (List.pairwise_map.mpr (hs.imp fun {a b} h => ?_)) fun a ha b hb e => ?_
  · rw [leD_eq, tk_int, tk_int]
    show (!(itemOrd.blt _ _ || (!itemOrd.blt _ _ && ltT [] []))) = true
    simp [ltT, PyProof.Rows.lexLt, PyProof.Rows.itemLt]
    omega
  · obtain ⟨x, _, rfl⟩ := List.mem_map.mp ha
    obtain ⟨y, _, rfl⟩ := List.mem_map.mp hb
    rw [tk_int, tk_int] at e
    simpa using e
theorem sortOk_ints (l : List Int) : SortOk (l.map .int) := by
  refine ⟨sh_mapL fun a _ => sh_int 59 a, max_alike l, .inr fun d hd => ?_⟩
  obtain ⟨x, hx, rfl⟩ := List.mem_map.mp hd
  obtain ⟨y, _, rfl⟩ := List.mem_map.mp hx
  exact ⟨by simp [py], fun xs => by simp [py]⟩
def stLeB (L : Nat) : Bool := decide (((stands L).map fun s => tk (eSt s)).Pairwise fun a b => ltT b a = false)
theorem stands_le1 : stLeB 1 = true := by decide +kernel
theorem stands_le2 : stLeB 2 = true := by decide +kernel
end BB
set_option maxRecDepth 100000
set_option maxHeartbeats 1000000
namespace BB
open PySem PySem.Spec PyProof.Rows L2
local macro_rules | `(tactic| walk_at "d") => `(tactic| simp only [ap_var, ap_c, ap_op, ap_b, ap_chain, ap_isN, ap_notN, ap_not, ap_and, ap_or, ap_notV, ap_andV, ap_orV, ap_if, ap_nil, ap_cons, ap_tup, ap_lst, ap_newL, ap_call, ap_bt, ap_bm, ap_sl, ap_no, ap_some, ap_rev, ap_frz, ap_get2, ap_oneT, ap_newT, ap_newS, ap_dictNew, ap_isi, ap_gset, ap_gend, ap_gmore, ap_gtup, ap_gtup3, ap_gsub, ap_next, ap_seq, ap_drop, ap_ret, ap_retN, ap_brk, ap_cont, ap_ifS, ap_asg, ap_par, ap_par3, ap_aug, ap_onx, ap_ort, ap_it, ap_enum, ap_items, ap_rg1, ap_rg2, ap_zip, ap_eq, ap_ne, ap_i2, ap_arI, ap_addI, ap_addT, ap_addL, ap_ixT, ap_ixL, ap_ix3, ap_wlen, ap_wtup, ap_btN, ap_isiA, ap_callK, ap_callX, ap_lstRg, ap_ixMk, ap_min2, ap_max2, ap_ixDr, ap_gtupDr2, ap_gtupE, ex_at0, ex_at1, ex_at2, ex_bl, ex_int, ex_sli, ex_som, ex_ptr, ex_l1i, ex_l1l, al_l1i, ex_one,
  List.getElem?_cons_zero, List.getElem?_cons_succ, List.set_cons_zero, List.set_cons_succ, List.length_cons, List.length_nil, deq_int, deq_str, deq_e3, vw_e3, vw_i, vw_t, vw_l, vw_s, vw_n, vw_b, true_and, and_true, sh_i64, sh_n64, List.nil_append, List.cons_append, isN_n, isN_i, isN_t, isN_l, isN_b, isN_p, isNon_e3, Bool.not_false, Bool.not_true, if_true, if_false, Bool.false_eq_true, decide_eq_true_eq, ite_true, ite_false, Bool.not_eq_true', decide_eq_false_iff_not, vw_sh, vw_st, ap_ixSh, ap_ixD, ap_ixSt, sh_t3, ap_gtupD, vw_eD, wipeD, reduceIte, Bool.true_eq_false])
/-! ### sorted drops, marks in order -/
theorem lt_step (i j : Int) (r t : List (Int ⊕ List Nat)) : ltT (.inl i :: r) (.inl j :: t) = false ↔ j < i ∨ (i = j ∧ ltT r t = false) := by
  have e : ltT (.inl i :: r) (.inl j :: t) = (decide (i < j) || (!decide (j < i) && ltT r t)) := lex_cons (O := itemOrd) _ _ _ _
  rw [e]
  simp only [Bool.or_eq_false_iff, decide_eq_false_iff_not, Bool.and_eq_false_iff, Bool.not_eq_false', decide_eq_true_eq]
  constructor
  · rintro ⟨h1, h2 | h2⟩
    · exact .inl h2
    · by_cases h : j < i
      · exact .inl h
      · exact .inr ⟨by omega, h2⟩
  · rintro (h | ⟨h, h2⟩)
    · exact ⟨by omega, .inl h⟩
    · exact ⟨by omega, .inr h2⟩
theorem leDr_f {a b : Drop} (h : leDr a b = true) : a.f ≤ b.f := by
  have h : leD (eDr a) (eDr b) = true := h
  rw [leD_eq] at h
  have h : ltT (tk (eDr b)) (tk (eDr a)) = false := by simpa using h
  have e : ∀ d : Drop, ∃ r, tk (eDr d) = .inl 1 :: .inl d.f :: r := fun d => ⟨_, by unfold eDr; rw [tk_cons, tk_int]; rfl⟩
  obtain ⟨r, hr⟩ := e a
  obtain ⟨t, ht⟩ := e b
  rw [hr, ht, lt_step, lt_step] at h
  omega
theorem sortDr_byF (l : List Drop) : ByF (sortDr l) := (List.pairwise_mergeSort (le := leDr) (fun a b c h1 h2 => leD_trans _ _ _ h1 h2) (fun a b => leD_total _ _) l).imp leDr_f
theorem tk_mark (p : T3 × Mk2) : tk (eMark p) = .inl 1 :: (tk (e3 p.1) ++ [.inl 1, .inl p.2.1, .inl 1, .inl p.2.2, .inl 0]) := by
  unfold eMark
  rw [tk_cons, tk_cons, tk_cons, tk_nil, tk_int, tk_int]; rfl
theorem tk_mark_inj {p q : T3 × Mk2} (h : tk (eMark p) = tk (eMark q)) : p = q := by
  rw [tk_mark, tk_mark, tk_e3, tk_e3] at h
  obtain ⟨⟨a, b, c⟩, d, e⟩ := p
  obtain ⟨⟨a', b', c'⟩, d', e'⟩ := q
  simp only [List.cons_append, List.nil_append, List.cons.injEq, Sum.inl.injEq, and_true, true_and] at h
  obtain ⟨h1, h2, h3, h4, h5⟩ := h
  rw [h1, h2, h3, h4, h5]
theorem le_mark {x y : T3} (hne : x ≠ y) (h : leD (e3 x) (e3 y) = true) (v w : Mk2) : leD (eMark (x, v)) (eMark (y, w)) = true := by
  rw [leD_eq] at h ⊢
  have h : ltT (tk (e3 y)) (tk (e3 x)) = false := by simpa using h
  have g : ltT (tk (eMark (y, w))) (tk (eMark (x, v))) = false := by
    rw [tk_mark, tk_mark]
    rw [tk_e3, tk_e3] at h ⊢
    obtain ⟨a, b, c⟩ := x
    obtain ⟨a', b', c'⟩ := y
    simp only [List.cons_append, List.nil_append, lt_step, true_and, Int.lt_irrefl, false_or] at h ⊢
    rcases h with h | ⟨h1, h | ⟨h2, h | ⟨h3, _⟩⟩⟩
    · exact .inl h
    · exact .inr ⟨h1, .inl h⟩
    · exact .inr ⟨h1, .inr ⟨h2, .inl h⟩⟩
    · exact absurd (by rw [h1, h2, h3]) hne
  rw [g]; rfl
theorem le3_pair (l : List T3) : (sort3 l).Pairwise fun a b => leD (e3 a) (e3 b) = true := List.pairwise_mergeSort (le := le3) (fun a b c h1 h2 => leD_trans _ _ _ h1 h2) (fun a b => leD_total _ _) l
theorem mem_marks {m : Found} {x : T3} {v : Mk2} : (x, v) ∈ marksM m ↔ aget m x = some v := by
  unfold marksM
  constructor
  · intro h
    obtain ⟨y, hy, e⟩ := List.mem_map.mp h
    have e1 := (Prod.mk.inj e).1
    have e2 := (Prod.mk.inj e).2
    subst e1
    have hy := (sort3_perm _).mem_iff.mp hy
    cases q : aget m y with
    | none => exact absurd hy (aget_none.mp q)
    | some w => rw [q] at e2; rw [← e2]; rfl
  · intro h
    refine List.mem_map.mpr ⟨x, (sort3_perm _).mem_iff.mpr (List.mem_map_of_mem (f := fun p : T3 × Mk2 => p.1) (aget_some_mem h)), ?_⟩
    rw [h]; rfl
theorem marks_keys (m : Found) : (marksM m).map (·.1) = sort3 (m.map (·.1)) := by
  unfold marksM
  rw [List.map_map]
  exact (List.map_congr_left fun _ _ => rfl).trans (List.map_id _)
theorem marks_nd {m : Found} (h : (m.map (·.1)).Nodup) : ((marksM m).map (·.1)).Nodup := by
  rw [marks_keys]
  exact (sort3_perm _).nodup_iff.mpr h
theorem nd_of_keys {β : Type} {l : List (T3 × β)} (h : (l.map (·.1)).Nodup) : l.Nodup := (List.pairwise_map.mp h).imp fun h e => h (by rw [e])
theorem marks_sorted {m : Found} (h : (m.map (·.1)).Nodup) : ((marksM m).map eMark).Pairwise fun a b => leD a b = true := by
  have h1 := le3_pair (m.map (·.1))
  have h2 : (sort3 (m.map (·.1))).Nodup := (sort3_perm _).nodup_iff.mpr h
  unfold marksM
  rw [List.map_map, List.pairwise_map]
  exact (h1.and h2).imp fun ⟨a, b⟩ => le_mark b a _ _
section
variable {σ : T3 → T3} {B : T3 → Prop}
/-- the marks by other names -/
theorem marks_named (inj : InjB σ B) {m m' : Found} (s : MSim σ B m m') (nd : (m.map (·.1)).Nodup) (nd' : (m'.map (·.1)).Nodup) : sortD ((marksM m).map fun p => eMark (σ p.1, p.2)) = (marksM m').map eMark := by
  have e : ((marksM m).map fun p => eMark (σ p.1, p.2)) = ((marksM m).map fun p => (σ p.1, p.2)).map eMark := by rw [List.map_map]; rfl
  rw [e]
  refine sort_uniq (List.Perm.map _ ?_) (marks_sorted nd') fun a ha b hb q => ?_
  · have hb : ∀ p ∈ marksM m, B p.1 := fun p hp => s.ks p.1 (by rw [mem_marks.mp (show (p.1, p.2) ∈ marksM m from hp)]; rfl)
    refine (List.perm_ext_iff_of_nodup ?_ (nd_of_keys (marks_nd nd'))).mpr fun p => ?_
    · refine nodup_map_on (nd_of_keys (marks_nd nd)) fun p hp q hq e => ?_
      exact inj_of_nodup (marks_nd nd) p hp q hq (inj _ _ (hb p hp) (hb q hq) (Prod.mk.inj e).1)
    · constructor
      · intro hp
        obtain ⟨q, hq, rfl⟩ := List.mem_map.mp hp
        exact mem_marks.mpr ((s.get q.1 (hb q hq)).trans (mem_marks.mp (show (q.1, q.2) ∈ marksM m from hq)))
      · intro hp
        have hp := mem_marks.mp (show (p.1, p.2) ∈ marksM m' from hp)
        obtain ⟨x, hx, ex⟩ := s.ks' p.1 (by rw [hp]; rfl)
        rw [ex, s.get x hx] at hp
        exact List.mem_map.mpr ⟨(x, p.2), mem_marks.mpr hp, by rw [← ex]⟩
  · obtain ⟨p, _, rfl⟩ := List.mem_map.mp ha
    obtain ⟨p', _, rfl⟩ := List.mem_map.mp hb
    rw [tk_mark_inj q]
theorem marks_same {m m' : Found} (s : MSim id B m m') (nd : (m.map (·.1)).Nodup) (nd' : (m'.map (·.1)).Nodup) : (marksM m).map eMark = (marksM m').map eMark := by
  have h1 := marks_named injB_id s nd nd'
  rw [← h1]
  exact (sort_uniq (List.Perm.refl _) (marks_sorted nd) fun a ha b hb q => by
    obtain ⟨p, _, rfl⟩ := List.mem_map.mp ha
    obtain ⟨p', _, rfl⟩ := List.mem_map.mp hb
    rw [tk_mark_inj q]).symm
end
/-! ### as few deeds -/
section
variable {L C : Nat} {g : T3}
theorem mir_mir (s : Stand) : mirS (mirS s) = s := by
  rw [mirS_eq, mirS_eq, ← List.map_reverse, List.reverse_reverse, List.map_map]
  conv => rhs; rw [← List.map_id s]
  apply List.map_congr_left
  intro p _
  show (p.1, 1 - (1 - p.2.1), p.2.2) = p
  rw [show 1 - (1 - p.2.1) = p.2.1 by omega]
theorem next_mir {s : Stand} {x : T3} {d : Deed} {w : State} (hz : Good L C (s, x)) (hd : okDeed L d) (h : nextL C s x d = some w) : nextL C (mirS s) x (mirD L d) = some (mirS w.1, w.2) := by
  cases d with
  | press k =>
    have h : (partM (pairsAt C s k) x).map (fun t => (s, t)) = some w := h
    show (partM (pairsAt C (mirS s) (L - 2 - k)) x).map (fun t => (mirS s, t)) = _
    have e := (pairsAt_mir (C := C) hz.st (show k + 1 < L from hd) 0 0).part x hz.bx
    have e : partM (pairsAt C (mirS s) (L - 2 - k)) x = (partM (pairsAt C s k) x).map id := e
    rw [e]
    cases q : partM (pairsAt C s k) x with
    | none => rw [q] at h; cases h
    | some t =>
      rw [q] at h
      have h := Option.some.inj h
      subst h
      rfl
  | swap k =>
    have h : some (movedM s (.swap k), x) = some w := h
    show some (movedM (mirS s) (mirD L (.swap k)), x) = _
    have h := Option.some.inj h
    subst h
    rw [moved_mir hz.st.len hd]
  | over k =>
    have h : some (movedM s (.over k), x) = some w := h
    show some (movedM (mirS s) (mirD L (.over k)), x) = _
    have h := Option.some.inj h
    subst h
    rw [moved_mir hz.st.len hd]
  | about k =>
    have h : some (movedM s (.about k), x) = some w := h
    show some (movedM (mirS s) (mirD L (.about k)), x) = _
    have h := Option.some.inj h
    subst h
    rw [moved_mir hz.st.len hd]
  | wait k =>
    have h : some (movedM s (.wait k), x) = some w := h
    have h := Option.some.inj h
    subst h
    rfl
theorem run_mir : ∀ (r : List Deed) (z w : State), Good L C z → (∀ d ∈ r, d ∈ deedsM L) → runL C r z = some w → runL C (r.map (mirD L)) (mirS z.1, z.2) = some (mirS w.1, w.2)
  | [], z, w, _, _, h => by
    have h := Option.some.inj h
    subst h
    rfl
  | d :: r, z, w, hz, hd, h => by
    have h : (nextL C z.1 z.2 d).bind (runL C r) = some w := h
    have hk := deeds_ok (hd d List.mem_cons_self)
    cases q : nextL C z.1 z.2 d with
    | none => rw [q] at h; cases h
    | some y =>
      rw [q] at h
      have h2 := run_mir r y w (next_good (s := z.1) (x := z.2) hz hk q) (fun e he => hd e (List.mem_cons_of_mem _ he)) h
      show (nextL C (mirS z.1) z.2 (mirD L d)).bind (runL C (r.map (mirD L))) = _
      rw [next_mir hz hk q]
      exact h2
theorem deeds_mir {d : Deed} (h : d ∈ deedsM L) : mirD L d ∈ deedsM L := by
  unfold deedsM at h ⊢
  simp only [List.mem_append, List.mem_map, List.mem_range] at h ⊢
  rcases h with ((⟨k, hk, rfl⟩ | ⟨k, hk, rfl⟩) | ⟨k, hk, rfl⟩) | ⟨k, hk, rfl⟩
  · exact .inl (.inl (.inl ⟨L - 1 - k, by omega, rfl⟩))
  · exact .inl (.inl (.inr ⟨L - 1 - k, by omega, rfl⟩))
  · exact .inl (.inr ⟨L - 2 - k, by omega, rfl⟩)
  · exact .inr ⟨L - 2 - k, by omega, rfl⟩
theorem bring_mir_le {s : Stand} {x : T3} (hz : Good L C (s, x)) {r : List Deed} (h : broughtP L C s x g 12 = some r) : ∃ r', broughtP L C (mirS s) x g 12 = some r' ∧ r'.length ≤ r.length := by
  by_cases e : x = g
  · refine ⟨[], ?_, Nat.zero_le _⟩
    unfold broughtP
    rw [if_pos e]
  · obtain ⟨k, hk, t, _, _⟩ := told_of e h
    obtain ⟨s', hr⟩ := t.rn
    have h1 := run_mir r (s, x) (s', g) hz t.dd hr
    have h2 := near_run (g := g) (r.map (mirD L)) _ _ 0 h1 (fun d hd => by
      obtain ⟨d', hd', rfl⟩ := List.mem_map.mp hd
      exact deeds_mir (t.dd d' hd')) (decide_eq_true rfl)
    rw [Nat.zero_add, List.length_map, t.ln] at h2
    cases q : broughtP L C (mirS s) x g 12 with
    | none =>
      have := bring_none e q
      rw [near_mono (show k + 1 ≤ 12 by omega) h2] at this
      cases this
    | some r' =>
      refine ⟨r', rfl, ?_⟩
      obtain ⟨k', _, t', _, n'⟩ := told_of e q
      rw [t.ln, t'.ln]
      by_cases c : k' ≤ k
      · omega
      · have := bring_none e n'
        rw [near_mono (show k + 1 ≤ k' by omega) h2] at this
        cases this
theorem bring_mir {s : Stand} {x : T3} (hz : Good L C (s, x)) : (broughtP L C (mirS s) x g 12).map List.length = (broughtP L C s x g 12).map List.length := by
  have hz' : Good L C (mirS s, x) := ⟨hz.st.mir, hz.bx⟩
  cases q : broughtP L C s x g 12 with
  | none =>
    cases q' : broughtP L C (mirS s) x g 12 with
    | none => rfl
    | some r' =>
      obtain ⟨r, hr, _⟩ := bring_mir_le hz' q'
      rw [mir_mir, q] at hr
      cases hr
  | some r =>
    obtain ⟨r', hr', h1⟩ := bring_mir_le hz q
    obtain ⟨r2, hr2, h2⟩ := bring_mir_le hz' hr'
    rw [mir_mir, q] at hr2
    have : r = r2 := Option.some.inj hr2
    subst this
    rw [hr']
    exact congrArg some (by omega)
end
end BB
set_option maxRecDepth 100000
set_option maxHeartbeats 1000000
namespace BB
open PySem PySem.Spec PyProof.Rows L2
local macro_rules | `(tactic| walk_at "d") => `(tactic| simp only [ap_var, ap_c, ap_op, ap_b, ap_chain, ap_isN, ap_notN, ap_not, ap_and, ap_or, ap_notV, ap_andV, ap_orV, ap_if, ap_nil, ap_cons, ap_tup, ap_lst, ap_newL, ap_call, ap_bt, ap_bm, ap_sl, ap_no, ap_some, ap_rev, ap_frz, ap_get2, ap_oneT, ap_newT, ap_newS, ap_dictNew, ap_isi, ap_gset, ap_gend, ap_gmore, ap_gtup, ap_gtup3, ap_gsub, ap_next, ap_seq, ap_drop, ap_ret, ap_retN, ap_brk, ap_cont, ap_ifS, ap_asg, ap_par, ap_par3, ap_aug, ap_onx, ap_ort, ap_it, ap_enum, ap_items, ap_rg1, ap_rg2, ap_zip, ap_eq, ap_ne, ap_i2, ap_arI, ap_addI, ap_addT, ap_addL, ap_ixT, ap_ixL, ap_ix3, ap_wlen, ap_wtup, ap_btN, ap_isiA, ap_callK, ap_callX, ap_lstRg, ap_ixMk, ap_min2, ap_max2, ap_ixDr, ap_gtupDr2, ap_gtupE, ex_at0, ex_at1, ex_at2, ex_bl, ex_int, ex_sli, ex_som, ex_ptr, ex_l1i, ex_l1l, al_l1i, ex_one,
  List.getElem?_cons_zero, List.getElem?_cons_succ, List.set_cons_zero, List.set_cons_succ, List.length_cons, List.length_nil, deq_int, deq_str, deq_e3, vw_e3, vw_i, vw_t, vw_l, vw_s, vw_n, vw_b, true_and, and_true, sh_i64, sh_n64, List.nil_append, List.cons_append, isN_n, isN_i, isN_t, isN_l, isN_b, isN_p, isNon_e3, Bool.not_false, Bool.not_true, if_true, if_false, Bool.false_eq_true, decide_eq_true_eq, ite_true, ite_false, Bool.not_eq_true', decide_eq_false_iff_not, vw_sh, vw_st, ap_ixSh, ap_ixD, ap_ixSt, sh_t3, ap_gtupD, vw_eD, wipeD, reduceIte, Bool.true_eq_false])
theorem deq_mark (p : T3 × Mk2) : deq (eMark p) (eMark p) = true := by
  unfold eMark
  rw [deq_cons, deq_cons, deq_cons, deq_nil, deq_e3, deq_int, deq_int]
  simp
theorem deq_marks : ∀ l : List (T3 × Mk2), deq (.lst (l.map eMark)) (.lst (l.map eMark)) = true
  | [] => rfl
  | d :: l => by rw [List.map_cons, deq_consL, deq_mark, deq_marks l]; rfl
theorem sh_mark (p : T3 × Mk2) (n : Nat) : sh (n + 2) (eMark p) := (sh_tup (n + 1) _).mpr fun x hx => by
  simp only [List.mem_cons, List.not_mem_nil, or_false] at hx
  rcases hx with rfl | rfl | rfl
  · exact sh_e3 _ n
  · exact sh_int _ _
  · exact sh_int _ _
theorem sh_marks (l : List (T3 × Mk2)) : sh 64 (.lst (l.map eMark)) := sh_mapL fun d _ => sh_mark d 61
theorem alike_mark (a b : T3 × Mk2) : PySem.W.alike (py (eMark a)) (py (eMark b)) = true := by
  unfold eMark e3
  simp [py, pys, PySem.W.alike, PySem.W.alikeAll]
theorem sortOk_mark (l : List (T3 × Mk2)) : SortOk (l.map eMark) := ⟨sh_mapL fun d _ => sh_mark d 57, fun a ha b hb => by
  obtain ⟨x, hx, rfl⟩ := List.mem_map.mp ha
  obtain ⟨y, hy, rfl⟩ := List.mem_map.mp hb
  obtain ⟨d, _, rfl⟩ := List.mem_map.mp hx
  obtain ⟨e, _, rfl⟩ := List.mem_map.mp hy
  exact alike_mark d e, .inl fun d hd => by
  obtain ⟨x, hx, rfl⟩ := List.mem_map.mp hd
  obtain ⟨e, _, rfl⟩ := List.mem_map.mp hx
  exact ⟨_, _, rfl⟩⟩
theorem sh_eORd (o : Option (List Nat)) : sh 64 (eORd o) := by
  cases o
  · exact sh_n64
  · exact sh_rd _ _
theorem sh_eOI (o : Option Int) : sh 64 (eOI o) := by
  cases o
  · exact sh_n64
  · exact sh_i64 _
theorem deq_rd : ∀ l : List Nat, deq (eRd l) (eRd l) = true
  | [] => rfl
  | d :: l => by
    show deq (.tup (.int (d : Int) :: l.map fun (n : Nat) => D.int (n : Int))) (.tup (.int (d : Int) :: l.map fun (n : Nat) => D.int (n : Int))) = true
    rw [deq_cons, deq_int, show deq (.tup (l.map fun (n : Nat) => D.int (n : Int))) (.tup (l.map fun (n : Nat) => D.int (n : Int))) = true from deq_rd l]
    simp
theorem deq_ORd (o : Option (List Nat)) : deq (eORd o) (eORd o) = true := by
  cases o
  · rfl
  · exact deq_rd _
theorem deq_OI (o : Option Int) : deq (eOI o) (eOI o) = true := by
  cases o
  · rfl
  · show deq (.int _) (.int _) = true
    rw [deq_int]; simp
theorem spread_kd {E : List Ev} (hb : InBox E) {l : List Drop} (hl : ∀ d ∈ l, d.x ∈ box 8 2 6) : Kd (spreadM E l) := by
  have h := spread_ok hb hl E [] (by simp)
  exact putAll_kd _ _ (h.bx hl) h.kd
section
variable {L C : Nat} {s : Stand} {r : List Deed} {m : Nm} {l : List Drop}
theorem LawRow.named (R : LawRow L C s r) (h : OkNm L C m) : LawRow L C (s.map m.lie) r := ⟨h.stand R.st, R.row, R.len, R.hL, R.hC⟩
theorem LawRow.mir (R : LawRow L C s r) : LawRow L C (mirS s) (r.map (mirD L)) := ⟨R.st.mir, fun d hd => by
  obtain ⟨e, he, rfl⟩ := List.mem_map.mp hd
  exact (R.row e he).mir, by rw [List.length_map]; exact R.len, R.hL, R.hC⟩
theorem LawRow.rnd (R : LawRow L C s r) : LawRow L C (s.map BB.rnd) r := ⟨R.st.rnd, R.row, R.len, R.hL, R.hC⟩
def DrB (L C : Nat) (l : List Drop) : Prop := ∀ d ∈ l, d.x ∈ box L 2 C
theorem LawRow.big (R : LawRow L C s r) {x : T3} (h : x ∈ BB.box L 2 C) : x ∈ BB.box 8 2 6 := box_mono (by have := R.hL; omega) (by omega) (by have := R.hC; omega) h
theorem DrB.nm (h : OkNm L C m) (hl : DrB L C l) : DrB L C (l.map (Drop.nm m.spot)) := fun d hd => by
  obtain ⟨e, he, rfl⟩ := List.mem_map.mp hd
  exact h.box (hl e he)
theorem DrB.sort (hl : DrB L C l) : DrB L C (sortDr l) := fun d hd => hl d ((sortDr_perm l).mem_iff.mp hd)
theorem LawRow.kd (R : LawRow L C s r) (hl : DrB L C l) : ((spreadM (evsOf C s r) (sortDr l)).map (·.1)).Nodup := (spread_kd R.box fun d hd => R.big (hl.sort d hd)).nd
theorem LawRow.f1 (R : LawRow L C s r) (h : OkNm L C m) (hl : DrB L C l) : sortD ((marksM (spreadM (evsOf C s r) (sortDr l))).map fun p => eMark (m.spot p.1, p.2)) = (marksM (spreadM (evsOf C (s.map m.lie) r) (sortDr (l.map (Drop.nm m.spot))))).map eMark := by
  refine marks_named h.inj (spread_sim h.inj (h.evs R.st R.row) (sortDr_byF _) (sortDr_byF _) ?_ hl.sort) (R.kd hl) ((R.named h).kd (hl.nm h))
  exact (sortDr_perm _).trans ((sortDr_perm l).map _).symm
theorem LawRow.f2 (R : LawRow L C s r) (hl : DrB L C l) : (marksM (spreadM (evsOf C (mirS s) (r.map (mirD L))) (sortDr l))).map eMark = (marksM (spreadM (evsOf C s r) (sortDr l))).map eMark := by
  refine (marks_same (B := fun x => x ∈ BB.box L 2 C) (spread_sim injB_id (mir_evs R.st R.row) (sortDr_byF _) (sortDr_byF _) ?_ hl.sort) (R.kd hl) (R.mir.kd hl)).symm
  rw [show (sortDr l).map (Drop.nm id) = sortDr l from (List.map_congr_left fun _ _ => rfl).trans (List.map_id _)]
theorem LawRow.f3 (R : LawRow L C s r) : evsOf C (s.map BB.rnd) r = evsOf C s r := rnd_evs r s 0 0 R.st
theorem LawRow.f4 (R : LawRow L C s r) (h : OkNm L C m) {x g : T3} (hx : x ∈ BB.box L 2 C) (hg : g ∈ BB.box L 2 C) (t : Int) : lastOf (m.spot x) (m.spot g) t (evsOf C (s.map m.lie) r) = lastOf x g t (evsOf C s r) := last_sim h.inj (h.evs R.st R.row) hx hg t
theorem LawRow.f5 (R : LawRow L C s r) {x g : T3} (hx : x ∈ BB.box L 2 C) (hg : g ∈ BB.box L 2 C) : roadM 0 400 x g (evsOf C (mirS s) (r.map (mirD L))) = roadM 0 400 x g (evsOf C s r) := road_sim (σ := id) injB_id (mir_evs R.st R.row) hx hg
end
end BB
set_option maxRecDepth 100000
set_option maxHeartbeats 1000000
namespace BB
open PySem PySem.Spec PyProof.Rows L2
local macro_rules | `(tactic| walk_at "d") => `(tactic| simp only [ap_var, ap_c, ap_op, ap_b, ap_chain, ap_isN, ap_notN, ap_not, ap_and, ap_or, ap_notV, ap_andV, ap_orV, ap_if, ap_nil, ap_cons, ap_tup, ap_lst, ap_newL, ap_call, ap_bt, ap_bm, ap_sl, ap_no, ap_some, ap_rev, ap_frz, ap_get2, ap_oneT, ap_newT, ap_newS, ap_dictNew, ap_isi, ap_gset, ap_gend, ap_gmore, ap_gtup, ap_gtup3, ap_gsub, ap_next, ap_seq, ap_drop, ap_ret, ap_retN, ap_brk, ap_cont, ap_ifS, ap_asg, ap_par, ap_par3, ap_aug, ap_onx, ap_ort, ap_it, ap_enum, ap_items, ap_rg1, ap_rg2, ap_zip, ap_eq, ap_ne, ap_i2, ap_arI, ap_addI, ap_addT, ap_addL, ap_ixT, ap_ixL, ap_ix3, ap_wlen, ap_wtup, ap_btN, ap_isiA, ap_callK, ap_callX, ap_lstRg, ap_ixMk, ap_min2, ap_max2, ap_ixDr, ap_gtupDr2, ap_gtupE, ex_at0, ex_at1, ex_at2, ex_bl, ex_int, ex_sli, ex_som, ex_ptr, ex_l1i, ex_l1l, al_l1i, ex_one,
  List.getElem?_cons_zero, List.getElem?_cons_succ, List.set_cons_zero, List.set_cons_succ, List.length_cons, List.length_nil, deq_int, deq_str, deq_e3, vw_e3, vw_i, vw_t, vw_l, vw_s, vw_n, vw_b, true_and, and_true, sh_i64, sh_n64, List.nil_append, List.cons_append, isN_n, isN_i, isN_t, isN_l, isN_b, isN_p, isNon_e3, Bool.not_false, Bool.not_true, if_true, if_false, Bool.false_eq_true, decide_eq_true_eq, ite_true, ite_false, Bool.not_eq_true', decide_eq_false_iff_not, vw_sh, vw_st, ap_ixSh, ap_ixD, ap_ixSt, sh_t3, ap_gtupD, vw_eD, wipeD, reduceIte, Bool.true_eq_false])
def b_law_f20 : DP :=
  (dSeq (dPar 21 22 (dCons (dCallX 5 FX_bring [12] (dCons (dVar 19) (dCons (dVar 20) (dCons (dVar 14) (dCons (dVar 15) dNil))))) (dCons (dCallX 5 FX_bring [12] (dCons (dVar 19) (dCons (dCall 2 F_law_mirrored (dCons (dVar 19) (dCons (dVar 20) dNil))) (dCons (dVar 14) (dCons (dVar 15) dNil))))) dNil)))
  (dIfS (dB (dOp wNe (dIf (dB (dIsN (dVar 21))) (dC .non) (dBt wLen (dCons (dVar 21) dNil))) (dIf (dB (dIsN (dVar 22))) (dC .non) (dBt wLen (dCons (dVar 22) dNil))))) (dRet (dC (.bl false))) dNext))

def b_law_f18 : DP :=
  (dSeq (dAsg (dCall 2 F_law_stand (dCons (dVar 1) (dCons (dVar 19) dNil))) (gSet 20))
  (dSeq (dPar 14 15 (dCons (dCall 2 F_law_spot (dCons (dVar 1) (dCons (dVar 19) dNil))) (dCons (dCall 2 F_law_spot (dCons (dVar 1) (dCons (dVar 19) dNil))) dNil)))
  b_law_f20))

def b_law_f16 : DP :=
  (dSeq (dIfS (dB (dOp wNe (dCall 5 F_road (dCons (dVar 3) (dCons (dVar 11) (dCons (dVar 12) (dCons (dTup (dCons (dC (.int 0)) (dCons (dVar 14) (dCons (dC (.int 400)) dNil)))) (dCons (dVar 15) dNil)))))) (dVar 18))) (dRet (dC (.bl false))) dNext)
  (dSeq (dAsg (dTup (dCons (dBt wMin2 (dCons (dOp wIxA (dVar 3) (dC (.int 0))) (dCons (dC (.int 2)) dNil))) (dCons (dOp wIxA (dVar 3) (dC (.int 1))) dNil))) (gSet 19))
  b_law_f18))

def b_law_f15 : DP :=
  (dSeq (dAsg (dCall 5 F_road (dCons (dVar 3) (dCons (dVar 4) (dCons (dVar 5) (dCons (dTup (dCons (dC (.int 0)) (dCons (dVar 14) (dCons (dC (.int 400)) dNil)))) (dCons (dVar 15) dNil)))))) (gSet 18))
  b_law_f16)

def b_law_f13 : DP :=
  (dSeq (dAsg (dLst (dCons (dCall 2 F_law_named (dCons (dVar 8) (dCons (dVar 14) dNil))) (dCons (dCall 2 F_law_named (dCons (dVar 8) (dCons (dVar 15) dNil))) dNil))) (gSet 17))
  (dSeq (dIfS (dB (dOp wNe (dCall 5 F_last_tick (dCons (dVar 3) (dCons (dCall 2 F_law_lying (dCons (dVar 8) (dCons (dVar 4) dNil))) (dCons (dVar 5) (dCons (dOp wIxA (dVar 17) (dC (.int 0))) (dCons (dOp wIxA (dVar 17) (dC (.int 1))) dNil)))))) (dVar 16))) (dRet (dC (.bl false))) dNext)
  b_law_f15))

def b_law_f12 : DP :=
  (dSeq (dAsg (dCall 5 F_last_tick (dCons (dVar 3) (dCons (dVar 4) (dCons (dVar 5) (dCons (dVar 14) (dCons (dVar 15) dNil)))))) (gSet 16))
  b_law_f13)

def b_law_f11 : DP :=
  (dSeq (dPar 14 15 (dCons (dCall 2 F_law_spot (dCons (dVar 1) (dCons (dVar 3) dNil))) (dCons (dCall 2 F_law_spot (dCons (dVar 1) (dCons (dVar 3) dNil))) dNil)))
  b_law_f12)

def b_law_f9 : DP :=
  (dSeq (dAsg (dBt wTupOf (dCons (dLc (dIt (dVar 4)) (gTupD 3 (gMore (gSet 26) (gMore (gSet 27) (gMore (gSet 28) gEnd)))) dYes (dTup (dCons (dVar 26) (dCons (dVar 27) (dCons (dOp wSub (dC (.int 1)) (dVar 28)) dNil)))) [26, 27, 28]) dNil)) (gSet 13))
  (dSeq (dIfS (dOr (dB (dOp wNe (dCall 4 F_marks (dCons (dVar 3) (dCons (dVar 11) (dCons (dVar 12) (dCons (dVar 6) dNil))))) (dVar 7))) (dB (dOp wNe (dCall 4 F_marks (dCons (dVar 3) (dCons (dVar 13) (dCons (dVar 5) (dCons (dVar 6) dNil))))) (dVar 7)))) (dRet (dC (.bl false))) dNext)
  b_law_f11))

def b_law_f8 : DP :=
  (dSeq (dPar 11 12 (dCons (dCall 2 F_law_mirrored (dCons (dVar 3) (dCons (dVar 4) dNil))) (dCons (dCall 2 F_law_mirrored_row (dCons (dVar 3) (dCons (dVar 5) dNil))) dNil)))
  b_law_f9)

def b_law_f7 : DP :=
  (dSeq (dIfS (dB (dOp wNe (dVar 10) (dBt wSrtA (dCons (dLc (dIt (dVar 7)) (gSet 25) dYes (dOp wAdd (dTup (dCons (dCall 2 F_law_named (dCons (dVar 8) (dCons (dOp wIxA (dVar 25) (dC (.int 0))) dNil))) dNil)) (dSl (dVar 25) (dSome (dC (.int 1))) dNoP)) [25]) dNil)))) (dRet (dC (.bl false))) dNext)
  b_law_f8)

def b_law_f6 : DP :=
  (dSeq (dAsg (dCall 4 F_marks (dCons (dVar 3) (dCons (dCall 2 F_law_lying (dCons (dVar 8) (dCons (dVar 4) dNil))) (dCons (dVar 5) (dCons (dVar 9) dNil))))) (gSet 10))
  b_law_f7)

def b_law_f4 : DP :=
  (dSeq (dAsg (dTup (dCons (dCall 2 F_law_any_order (dCons (dVar 1) (dCons (dOp wIxA (dVar 3) (dC (.int 0))) dNil))) (dCons (dOp wEq (dCall 2 F_law_draw (dCons (dVar 1) (dCons (dC (.int 2)) dNil))) (dC (.int 0))) (dCons (dOp wIxA (dVar 3) (dC (.int 1))) (dCons (dOp wEq (dCall 2 F_law_draw (dCons (dVar 1) (dCons (dC (.int 2)) dNil))) (dC (.int 0))) dNil))))) (gSet 8))
  (dSeq (dAsg (dLc (dIt (dVar 6)) (gSet 24) dYes (dTup (dCons (dOp wIxA (dVar 24) (dC (.int 0))) (dCons (dCall 2 F_law_named (dCons (dVar 8) (dCons (dOp wIxA (dVar 24) (dC (.int 1))) dNil))) (dCons (dOp wIxA (dVar 24) (dC (.int 2))) dNil)))) [24]) (gSet 9))
  b_law_f6))

def b_law_f2 : DP :=
  (dSeq (dAsg (dLc (dRg1 fun ρ Q => (dCons (dCall 2 F_law_draw (dCons (dVar 1) (dCons (dC (.int 5)) dNil))) dNil) ρ fun xs ρ' => (∀ j, xs = [.int j] → -(2 ^ 62) ≤ j) ∧ Q xs ρ') (gSet 23) dYes (dCall 3 F_law_drop (dCons (dVar 1) (dCons (dVar 3) (dCons (dCall 1 F_ticks (dCons (dVar 5) dNil)) dNil)))) [23]) (gSet 6))
  (dSeq (dAsg (dCall 4 F_marks (dCons (dVar 3) (dCons (dVar 4) (dCons (dVar 5) (dCons (dVar 6) dNil))))) (gSet 7))
  b_law_f4))

def b_law : DP :=
  (dSeq (dFor (dRg1 fun ρ Q => (dCons (dC (.int 3)) dNil) ρ fun xs ρ' => (∀ j, xs = [.int j] → -(2 ^ 62) ≤ j) ∧ Q xs ρ') (gSet 2)
  (dSeq (dAsg (dCall 3 F_law_shape (dCons (dVar 1) (dCons (dC (.int 4)) (dCons (dC (.int 3)) dNil)))) (gSet 3))
  (dSeq (dAsg (dTup (dCons (dCall 2 F_law_stand (dCons (dVar 1) (dCons (dVar 3) dNil))) (dCons (dCall 3 F_law_row (dCons (dVar 1) (dCons (dVar 3) (dCons (dC (.int 20)) dNil)))) dNil))) (gTupD 2 (gMore (gSet 4) (gMore (gSet 5) gEnd))))
  b_law_f2)))
  (dRet (dC (.bl true))))

section
variable {ns : List Int} {k c : Int} {L C : Nat} {s : Stand} {r : List Deed} {m : Nm} {l : List Drop} {E : DEnds}
variable {x2 x3 x4 x5 x6 x7 x8 x9 x10 x11 x12 x13 x14 x15 x16 x17 x18 x19 x20 x21 x22 x23 x24 x25 x26 x27 x28 : Option D}
def Fin13 (E : DEnds) (ns : List Int) : Prop := ∀ (k c : Int) (x2 x3 x4 x5 x6 x7 x8 x9 x10 x11 x12 x13 x14 x15 x16 x17 x18 x19 x20 x21 x22 x23 x24 x25 x26 x27 x28 : Option D),
  E.nx ⟨[none, some (.ptr 0), x2, x3, x4, x5, x6, x7, x8, x9, x10, x11, x12, x13, x14, x15, x16, x17, x18, x19, x20, x21, x22, x23, x24, x25, x26, x27, x28], [tapeC ns k c]⟩
theorem vw_eORd (st : List Cell) (o : Option (List Nat)) : vw st (eORd o) = eORd o := by cases o <;> rfl
theorem vw_eOI (st : List Cell) (o : Option Int) : vw st (eOI o) = eOI o := by cases o <;> rfl
theorem min_sh (L C : Nat) : D.tup [.int (min (L : Int) 2), .int (C : Int)] = eSh (min L 2) C := by
  unfold eSh
  rw [show ((min L 2 : Nat) : Int) = min (L : Int) 2 by omega]
theorem ne_marks (l : List (T3 × Mk2)) : ¬ (deq (.lst (l.map eMark)) (.lst (l.map eMark)) = false) := by rw [deq_marks]; simp
theorem isN_eDs (o : Option (List Deed)) : isNon (eDs o) = !o.isSome := by cases o <;> rfl
theorem law_f20 (hE : Fin13 E ns) {x g : T3} (hs : Small L C s) (hx : x ∈ box L 2 C) (hg : g ∈ box L 2 C) : b_law_f20 E ⟨[none, some (.ptr 0), x2, x3, x4, x5, x6, x7, x8, x9, x10, x11, x12, x13, some (e3 x), some (e3 g), x16, x17, x18, some (eSh L C), some (eSt s), x21, x22, x23, x24, x25, x26, x27, x28], [tapeC ns k c]⟩ := by
  have hs' : Small L C (mirS s) := ⟨hs.st.mir, hs.hL0, hs.hL, hs.hC⟩
  have hb := bring_mir (g := g) (show Good L C (s, x) from ⟨hs.st, hx⟩)
  unfold b_law_f20
  walk_at "d"
  refine ⟨by decide, .inl ⟨L, C, s, x, g, 12, rfl, hs, hx, hg, by decide, ?_⟩⟩
  refine ⟨L, C, s, rfl, by rw [hs.st.len]; have := hs.hL; omega, ?_⟩
  refine ⟨by decide, .inl ⟨L, C, mirS s, x, g, 12, rfl, hs', hx, hg, by decide, ?_⟩⟩
  refine ⟨_, _, rfl, ?_⟩
  generalize broughtP L C s x g 12 = a at hb ⊢
  generalize broughtP L C (mirS s) x g 12 = b at hb ⊢
  cases a with
  | none =>
    cases b with
    | some b => cases hb
    | none =>
      exact (if_pos rfl).mpr ((if_pos rfl).mpr ((if_neg (by decide)).mpr (hE _ _ _ _ _ _ _ _ _ _ _ _ _ _ _ _ _ _ _ _ _ _ _ _ _ _ _ _ _)))
  | some a =>
    cases b with
    | none => cases hb
    | some b =>
      have hl : b.length = a.length := Option.some.inj hb
      refine (if_neg (by simp [isN_eDs])).mpr ?_
      refine (if_neg (by simp [isN_eDs])).mpr ?_
      refine (if_neg (by simp [hl])).mpr ?_
      exact hE _ _ _ _ _ _ _ _ _ _ _ _ _ _ _ _ _ _ _ _ _ _ _ _ _ _ _ _ _
theorem law_f18 (hE : Fin13 E ns) (hL0 : 0 < L) (hL : L ≤ 2) (hC0 : 0 < C) (hC : C ≤ 3) : b_law_f18 E ⟨[none, some (.ptr 0), x2, x3, x4, x5, x6, x7, x8, x9, x10, x11, x12, x13, x14, x15, x16, x17, x18, some (eSh L C), x20, x21, x22, x23, x24, x25, x26, x27, x28], [tapeC ns k c]⟩ := by
  unfold b_law_f18
  walk_at "d"
  refine ⟨0, ns, k, c, L, C, rfl, rfl, by omega, fun s k1 c1 hs => ?_⟩
  refine ⟨0, ns, k1, c1, L, C, rfl, rfl, by omega, by omega, by omega, by omega, fun x k2 c2 hx => ?_⟩
  refine ⟨0, ns, k2, c2, L, C, rfl, rfl, by omega, by omega, by omega, by omega, fun g k3 c3 hg => ?_⟩
  refine ⟨_, _, rfl, ?_⟩
  exact law_f20 hE ⟨hs, hL0, by omega, hC⟩ hx hg
theorem law_f16 (hE : Fin13 E ns) (R : LawRow L C s r) (hL0 : 0 < L) (hC0 : 0 < C) {x g : T3} (hx : x ∈ box L 2 C) (hg : g ∈ box L 2 C) : b_law_f16 E ⟨[none, some (.ptr 0), x2, some (eSh L C), x4, x5, x6, x7, x8, x9, x10, some (eSt (mirS s)), some (eR (r.map (mirD L))), x13, some (e3 x), some (e3 g), x16, x17, some (eORd (roadM 0 400 x g (evsOf C s r))), x19, x20, x21, x22, x23, x24, x25, x26, x27, x28], [tapeC ns k c]⟩ := by
  unfold b_law_f16
  walk_at "d"
  refine ⟨by decide, L, C, mirS s, r.map (mirD L), 0, 400, x, g, rfl, R.mir.ok, R.mir.box, R.big hx, R.mir.bestIs x g, ?_⟩
  rw [R.f5 hx hg]
  simp only [vw_eORd]
  refine ⟨sh_eORd _, sh_eORd _, ?_⟩
  refine (if_neg (by rw [deq_ORd]; simp)).mpr ⟨by decide, ?_⟩
  have hL := R.hL
  rw [min_sh]
  exact law_f18 hE (by omega) (by omega) hC0 R.hC
theorem law_f15 (hE : Fin13 E ns) (R : LawRow L C s r) (hL0 : 0 < L) (hC0 : 0 < C) {x g : T3} (hx : x ∈ box L 2 C) (hg : g ∈ box L 2 C) : b_law_f15 E ⟨[none, some (.ptr 0), x2, some (eSh L C), some (eSt s), some (eR r), x6, x7, x8, x9, x10, some (eSt (mirS s)), some (eR (r.map (mirD L))), x13, some (e3 x), some (e3 g), x16, x17, x18, x19, x20, x21, x22, x23, x24, x25, x26, x27, x28], [tapeC ns k c]⟩ := by
  unfold b_law_f15
  walk_at "d"
  refine ⟨by decide, L, C, s, r, 0, 400, x, g, rfl, R.ok, R.box, R.big hx, R.bestIs x g, ?_⟩
  exact law_f16 hE R hL0 hC0 hx hg
theorem law_f13 (hE : Fin13 E ns) (R : LawRow L C s r) (hm : OkNm L C m) (hL0 : 0 < L) (hC0 : 0 < C) {x g : T3} (hx : x ∈ box L 2 C) (hg : g ∈ box L 2 C) : b_law_f13 E ⟨[none, some (.ptr 0), x2, some (eSh L C), some (eSt s), some (eR r), x6, x7, some (eNm m), x9, x10, some (eSt (mirS s)), some (eR (r.map (mirD L))), x13, some (e3 x), some (e3 g), some (eOI (lastOf x g (ticksM r) (evsOf C s r))), x17, x18, x19, x20, x21, x22, x23, x24, x25, x26, x27, x28], [tapeC ns k c]⟩ := by
  have bx := box_of hx
  have bg := box_of hg
  unfold b_law_f13
  walk_at "d"
  refine ⟨m, x, rfl, bx.1.1, by rw [hm.len]; exact bx.1.2, m, g, rfl, bg.1.1, by rw [hm.len]; exact bg.1.2, ?_⟩
  refine ⟨by decide, m, s, rfl, fun p hp => by rw [hm.len]; exact R.st.leaf hp, R.ok.st.sz, ?_⟩
  refine ⟨L, C, s.map m.lie, r, m.spot x, m.spot g, rfl, (R.named hm).ok, (R.named hm).box, (R.named hm).big (hm.box hg), ?_⟩
  rw [R.f4 hm hx hg]
  simp only [vw_eOI]
  refine ⟨sh_eOI _, sh_eOI _, ?_⟩
  refine (if_neg (by rw [deq_OI]; simp)).mpr ?_
  exact law_f15 hE R hL0 hC0 hx hg
theorem law_f12 (hE : Fin13 E ns) (R : LawRow L C s r) (hm : OkNm L C m) (hL0 : 0 < L) (hC0 : 0 < C) {x g : T3} (hx : x ∈ box L 2 C) (hg : g ∈ box L 2 C) : b_law_f12 E ⟨[none, some (.ptr 0), x2, some (eSh L C), some (eSt s), some (eR r), x6, x7, some (eNm m), x9, x10, some (eSt (mirS s)), some (eR (r.map (mirD L))), x13, some (e3 x), some (e3 g), x16, x17, x18, x19, x20, x21, x22, x23, x24, x25, x26, x27, x28], [tapeC ns k c]⟩ := by
  unfold b_law_f12
  walk_at "d"
  refine ⟨L, C, s, r, x, g, rfl, R.ok, R.box, R.big hg, ?_⟩
  exact law_f13 hE R hm hL0 hC0 hx hg
theorem law_f11 (hE : Fin13 E ns) (R : LawRow L C s r) (hm : OkNm L C m) (hL0 : 0 < L) (hC0 : 0 < C) : b_law_f11 E ⟨[none, some (.ptr 0), x2, some (eSh L C), some (eSt s), some (eR r), x6, x7, some (eNm m), x9, x10, some (eSt (mirS s)), some (eR (r.map (mirD L))), x13, x14, x15, x16, x17, x18, x19, x20, x21, x22, x23, x24, x25, x26, x27, x28], [tapeC ns k c]⟩ := by
  have hL := R.hL
  have hC := R.hC
  unfold b_law_f11
  walk_at "d"
  refine ⟨0, ns, k, c, L, C, rfl, rfl, by omega, by omega, by omega, by omega, fun x k2 c2 hx => ?_⟩
  refine ⟨0, ns, k2, c2, L, C, rfl, rfl, by omega, by omega, by omega, by omega, fun g k3 c3 hg => ?_⟩
  refine ⟨_, _, rfl, ?_⟩
  exact law_f12 hE R hm hL0 hC0 hx hg
theorem law_f9 (hE : Fin13 E ns) (R : LawRow L C s r) (hm : OkNm L C m) (hL0 : 0 < L) (hC0 : 0 < C) (hl : DrB L C l) (hll : l.length ≤ 1000) : b_law_f9 E ⟨[none, some (.ptr 0), x2, some (eSh L C), some (eSt s), some (eR r), some (.lst (l.map eDr)), some (.lst ((marksM (spreadM (evsOf C s r) (sortDr l))).map eMark)), some (eNm m), x9, x10, some (eSt (mirS s)), some (eR (r.map (mirD L))), x13, x14, x15, x16, x17, x18, x19, x20, x21, x22, x23, x24, x25, x26, x27, x28], [tapeC ns k c]⟩ := by
  unfold b_law_f9
  walk_at "d"
  refine dLc_map (α := T3) (l := s) (e := e3) (f := fun p => e3 (rnd p)) (fun W hW => ?_) (fun p hp P hP => ?_) ?_
  · walk_at "d"
    exact hW
  · walk_at "d"
    exact ⟨by decide, hP _ rfl⟩
  · walk_at "d"
    have e : (s.map fun p => e3 (rnd p)) = (s.map rnd).map e3 := by rw [List.map_map]; rfl
    rw [e]
    refine ⟨L, C, mirS s, r.map (mirD L), l, rfl, R.mir.ok, R.mir.box, fun d hd => R.big (hl d hd), hll, ?_⟩
    rw [R.f2 hl]
    refine ⟨sh_marks _, sh_marks _, (if_neg (ne_marks _)).mpr ?_⟩
    refine ⟨L, C, s.map rnd, r, l, rfl, R.rnd.ok, R.rnd.box, fun d hd => R.big (hl d hd), hll, ?_⟩
    rw [R.f3]
    refine ⟨sh_marks _, sh_marks _, (if_neg (ne_marks _)).mpr ?_⟩
    exact law_f11 hE R hm hL0 hC0
theorem law_f8 (hE : Fin13 E ns) (R : LawRow L C s r) (hm : OkNm L C m) (hL0 : 0 < L) (hC0 : 0 < C) (hl : DrB L C l) (hll : l.length ≤ 1000) : b_law_f8 E ⟨[none, some (.ptr 0), x2, some (eSh L C), some (eSt s), some (eR r), some (.lst (l.map eDr)), some (.lst ((marksM (spreadM (evsOf C s r) (sortDr l))).map eMark)), some (eNm m), x9, x10, x11, x12, x13, x14, x15, x16, x17, x18, x19, x20, x21, x22, x23, x24, x25, x26, x27, x28], [tapeC ns k c]⟩ := by
  unfold b_law_f8
  walk_at "d"
  refine ⟨L, C, s, rfl, R.ok.st.sz, L, C, r, rfl, fun d hd => (R.row d hd).ok, by have := R.len; omega, ?_⟩
  refine ⟨_, _, rfl, ?_⟩
  exact law_f9 hE R hm hL0 hC0 hl hll
theorem law_f7 (hE : Fin13 E ns) (R : LawRow L C s r) (hm : OkNm L C m) (hL0 : 0 < L) (hC0 : 0 < C) (hl : DrB L C l) (hll : l.length ≤ 1000) : b_law_f7 E ⟨[none, some (.ptr 0), x2, some (eSh L C), some (eSt s), some (eR r), some (.lst (l.map eDr)), some (.lst ((marksM (spreadM (evsOf C s r) (sortDr l))).map eMark)), some (eNm m), x9, some (.lst ((marksM (spreadM (evsOf C (s.map m.lie) r) (sortDr (l.map (Drop.nm m.spot))))).map eMark)), x11, x12, x13, x14, x15, x16, x17, x18, x19, x20, x21, x22, x23, x24, x25, x26, x27, x28], [tapeC ns k c]⟩ := by
  have hks : ∀ p ∈ marksM (spreadM (evsOf C s r) (sortDr l)), p.1 ∈ box L 2 C := fun p hp => (spread_sim injB_id (mir_evs R.st R.row) (sortDr_byF l) (sortDr_byF l) (by rw [show (sortDr l).map (Drop.nm id) = sortDr l from (List.map_congr_left fun _ _ => rfl).trans (List.map_id _)]) hl.sort).ks p.1 (by rw [mem_marks.mp (show (p.1, p.2) ∈ _ from hp)]; rfl)
  have f1 := R.f1 hm hl
  unfold b_law_f7
  walk_at "d"
  refine dLc_map (α := T3 × Mk2) (l := marksM (spreadM (evsOf C s r) (sortDr l))) (e := eMark) (f := fun p => eMark (m.spot p.1, p.2)) (fun W hW => ?_) (fun p hp P hP => ?_) ?_
  · walk_at "d"
    exact hW
  · have bp := box_of (hks p hp)
    unfold eMark
    walk_at "d"
    exact ⟨m, p.1, rfl, bp.1.1, by rw [hm.len]; exact bp.1.2, by decide, (show 1 + 2 ≤ sizeLine by decide), hP _ rfl⟩
  · walk_at "d"
    have e : ((marksM (spreadM (evsOf C s r) (sortDr l))).map fun p => eMark (m.spot p.1, p.2)) = ((marksM (spreadM (evsOf C s r) (sortDr l))).map fun p => (m.spot p.1, p.2)).map eMark := by rw [List.map_map]; rfl
    refine ⟨_, rfl, .inl ⟨_, rfl, by rw [e]; exact sortOk_mark _, ?_⟩⟩
    rw [f1]
    refine ⟨sh_marks _, sh_marks _, (if_neg (ne_marks _)).mpr ?_⟩
    exact law_f8 hE R hm hL0 hC0 hl hll
theorem law_f6 (hE : Fin13 E ns) (R : LawRow L C s r) (hm : OkNm L C m) (hL0 : 0 < L) (hC0 : 0 < C) (hl : DrB L C l) (hll : l.length ≤ 1000) : b_law_f6 E ⟨[none, some (.ptr 0), x2, some (eSh L C), some (eSt s), some (eR r), some (.lst (l.map eDr)), some (.lst ((marksM (spreadM (evsOf C s r) (sortDr l))).map eMark)), some (eNm m), some (.lst ((l.map (Drop.nm m.spot)).map eDr)), x10, x11, x12, x13, x14, x15, x16, x17, x18, x19, x20, x21, x22, x23, x24, x25, x26, x27, x28], [tapeC ns k c]⟩ := by
  unfold b_law_f6
  walk_at "d"
  refine ⟨m, s, rfl, fun p hp => by rw [hm.len]; exact R.st.leaf hp, R.ok.st.sz, ?_⟩
  refine ⟨L, C, s.map m.lie, r, l.map (Drop.nm m.spot), rfl, (R.named hm).ok, (R.named hm).box, fun d hd => R.big (hl.nm hm d hd), by rw [List.length_map]; exact hll, ?_⟩
  exact law_f7 hE R hm hL0 hC0 hl hll
theorem law_f4 (hE : Fin13 E ns) (R : LawRow L C s r) (hL0 : 0 < L) (hC0 : 0 < C) (hl : DrB L C l) (hll : l.length ≤ 1000) : b_law_f4 E ⟨[none, some (.ptr 0), x2, some (eSh L C), some (eSt s), some (eR r), some (.lst (l.map eDr)), some (.lst ((marksM (spreadM (evsOf C s r) (sortDr l))).map eMark)), x8, x9, x10, x11, x12, x13, x14, x15, x16, x17, x18, x19, x20, x21, x22, x23, x24, x25, x26, x27, x28], [tapeC ns k c]⟩ := by
  have hL := R.hL
  unfold b_law_f4
  walk_at "d"
  refine ⟨0, ns, k, c, L, rfl, rfl, by omega, fun q k1 c1 hq => ?_⟩
  refine ⟨0, ns, k1, c1, 2, rfl, rfl, by decide, by decide, fun r1 k2 c2 _ _ => ⟨sh_i64 _, 0, ns, k2, c2, 2, rfl, rfl, by decide, by decide, fun r2 k3 c3 _ _ => ⟨sh_i64 _, by decide, ?_⟩⟩⟩
  simp only [vw_i, deq_int]
  have hm : OkNm L C ⟨q, decide (r1 = 0), C, decide (r2 = 0)⟩ := ⟨hq, rfl⟩
  refine dLc_map (α := Drop) (l := l) (e := eDr) (f := fun d => eDr (d.nm (Nm.mk q (decide (r1 = 0)) C (decide (r2 = 0))).spot)) (fun W hW => ?_) (fun d hd P hP => ?_) ?_
  · walk_at "d"
    exact hW
  · have bd := box_of (hl d hd)
    walk_at "d"
    refine ⟨⟨q, decide (r1 = 0), C, decide (r2 = 0)⟩, d.x, rfl, bd.1.1, by rw [hm.len]; exact bd.1.2, ?_⟩
    exact ⟨by decide, hP _ rfl⟩
  · have e : (l.map fun d => eDr (d.nm (Nm.mk q (decide (r1 = 0)) C (decide (r2 = 0))).spot)) = (l.map (Drop.nm (Nm.mk q (decide (r1 = 0)) C (decide (r2 = 0))).spot)).map eDr := by rw [List.map_map]; rfl
    rw [e]
    exact law_f6 hE R hm hL0 hC0 hl hll
theorem law_f2 (hE : Fin13 E ns) (hs : OkSt L s) (hr : ∀ d ∈ r, OkD L d) (hlr : r.length ≤ 20) (hL0 : 0 < L) (hL : L ≤ 4) (hC0 : 0 < C) (hC : C ≤ 3) : b_law_f2 E ⟨[none, some (.ptr 0), x2, some (eSh L C), some (eSt s), some (eR r), x6, x7, x8, x9, x10, x11, x12, x13, x14, x15, x16, x17, x18, x19, x20, x21, x22, x23, x24, x25, x26, x27, x28], [tapeC ns k c]⟩ := by
  have R : LawRow L C s r := ⟨hs, hr, by omega, by omega, hC⟩
  have ht := ticks_le r fun d hd => (hr d hd).hi
  have ht0 : ∀ r : List Deed, (∀ d ∈ r, OkD L d) → 0 ≤ ticksM r := fun r => by
    induction r with
    | nil => exact fun _ => Int.le_refl _
    | cons d r ih =>
      intro h
      rw [ticksM_cons]
      have := ih fun e he => h e (List.mem_cons_of_mem _ he)
      have := (h d List.mem_cons_self).lo
      omega
  obtain ⟨T, eT⟩ := Int.eq_ofNat_of_zero_le (ht0 r hr)
  unfold b_law_f2
  rw [ap_seq, ap_asg]
  unfold dLc
  walk_at "d"
  refine ⟨0, ns, k, c, 5, rfl, rfl, by decide, by decide, fun n k1 c1 h0 h1 => ?_⟩
  walk_at "d"
  refine ⟨by omega, by omega, ?_⟩
  refine ⟨fun i acc st' => ∃ (l : List Drop) (k3 c3 : Int), acc = l.map eDr ∧ (∀ d ∈ l, d.x ∈ box L 2 C) ∧ l.length ≤ i ∧ st' = [tapeC ns k3 c3], ⟨[], k1, c1, rfl, by simp, by simp, rfl⟩, ?_, ?_⟩
  · rintro i d acc st' hi ⟨l, k3, c3, rfl, hl, hll, rfl⟩
    walk_at "d"
    unfold dYes
    walk_at "d"
    refine ⟨r, rfl, 0, ns, k3, c3, L, C, T, by rw [eT], rfl, by omega, by omega, by omega, by omega, by omega, fun d k4 c4 hd => ?_⟩
    refine ⟨l ++ [d], k4, c4, by simp, fun e he => ?_, by simp; omega, rfl⟩
    rcases List.mem_append.mp he with he | he
    · exact hl e he
    · have : e = d := by simpa using he
      rw [this]; exact hd.bx
  · rintro acc st' ⟨l, k3, c3, rfl, hl, hll, rfl⟩
    rw [intsD_length] at hll
    refine ⟨L, C, s, r, l, rfl, R.ok, R.box, fun d hd => R.big (hl d hd), by omega, ?_⟩
    exact law_f4 hE R hL0 hC0 hl (by omega)
theorem sp_law (ns : List Int) : b_law endL ⟨[none, some (.ptr 0), none, none, none, none, none, none, none, none, none, none, none, none, none, none, none, none, none, none, none, none, none, none, none, none, none, none, none], [tapeC ns 0 0]⟩ := by
  unfold b_law
  walk_at "d"
  refine dFor_ints 3 (fun i ρ' => ∃ k c x2 x3 x4 x5 x6 x7 x8 x9 x10 x11 x12 x13 x14 x15 x16 x17 x18 x19 x20 x21 x22 x23 x24 x25 x26 x27 x28, ρ' = ⟨[none, some (.ptr 0), x2, x3, x4, x5, x6, x7, x8, x9, x10, x11, x12, x13, x14, x15, x16, x17, x18, x19, x20, x21, x22, x23, x24, x25, x26, x27, x28], [tapeC ns k c]⟩) (fun W hW => ?_) ⟨0, 0, none, none, none, none, none, none, none, none, none, none, none, none, none, none, none, none, none, none, none, none, none, none, none, none, none, none, none, rfl⟩ ?_ ?_
  · walk_at "d"
    exact ⟨by decide, by decide, hW⟩
  · rintro i ρ' hi ⟨k, c, x2, x3, x4, x5, x6, x7, x8, x9, x10, x11, x12, x13, x14, x15, x16, x17, x18, x19, x20, x21, x22, x23, x24, x25, x26, x27, x28, rfl⟩
    walk_at "d"
    refine ⟨0, ns, k, c, 4, 3, rfl, rfl, by decide, by decide, by decide, by decide, fun L C k1 c1 hL1 hL2 hC1 hC2 => ?_⟩
    refine ⟨0, ns, k1, c1, L, C, rfl, rfl, by omega, fun s k2 c2 hs => ?_⟩
    refine ⟨0, ns, k2, c2, L, C, 20, rfl, rfl, by omega, by omega, by decide, fun r k3 c3 hr hlr => ?_⟩
    refine ⟨by decide, ?_⟩
    exact law_f2 (fun _ _ _ _ _ _ _ _ _ _ _ _ _ _ _ _ _ _ _ _ _ _ _ _ _ _ _ _ _ => ⟨_, _, _, _, _, _, _, _, _, _, _, _, _, _, _, _, _, _, _, _, _, _, _, _, _, _, _, _, _, rfl⟩) hs hr hlr (by omega) (by omega) (by omega) (by omega)
  · rintro ρ' ⟨k, c, x2, x3, x4, x5, x6, x7, x8, x9, x10, x11, x12, x13, x14, x15, x16, x17, x18, x19, x20, x21, x22, x23, x24, x25, x26, x27, x28, rfl⟩
    walk_at "d"
    rfl
end
end BB
set_option maxRecDepth 100000
set_option maxHeartbeats 1000000
namespace BB
open PySem PySem.Spec PyProof.Rows L2
/-- law's: a list of at most 63 ints is handed in, True comes out -/
def spLaw (K : PySem.W.Frag) : Sp := fun vs H Q _ => ∃ (a : Addr) (ns : List Int), vs = [.ref a] ∧ SqL K H a (ns.map V.int) ∧ ns.length ≤ 63 ∧ ∀ H', Q (.bl true) H'
theorem script_rep {G : Gd} {H : Hp} {as : List Addr} : ∀ ns : List Int, RepAll G H as (ns.map V.int) (ns.map D.int)
  | [] => .nil
  | n :: ns => .cons (.int n) (script_rep ns)
/-- the tape as it is laid -/
theorem tape_rep {G : Gd} {H : Hp} {l p : Addr} {o : Obj} {ns : List Int} (hl : H l = some (.frz o (.lst (ns.map V.int)))) (hp : H p = some (.lst [.ref l, .int 0, .int 0])) : RepSt G H [p] [tapeC ns 0 0] := by
  refine ⟨rfl, by simp, fun j c a h1 h2 => ?_⟩
  cases j with
  | succ j => simp at h1
  | zero =>
    simp only [List.getElem?_cons_zero, Option.some.injEq] at h1 h2
    subst h1; subst h2
    exact ⟨_, hp, .cons (.lst ⟨o, hl⟩ (script_rep ns)) (.cons (.int 0) (.cons (.int 0) .nil))⟩
theorem tape_reps {G : Gd} {H : Hp} {p : Addr} {σ : L2.St} {ns : List Int} {n : Nat} (h : RepSt G H [p] [tapeC ns 0 0]) (hl : σ.length = n + 2) (h1 : σ[1]? = some (some (.ref p))) : RepS G H [p] σ ⟨none :: some (.ptr 0) :: List.replicate n none, [tapeC ns 0 0]⟩ := by
  refine ⟨by simp [hl], fun i d hd => ?_, h⟩
  match i, hd with
  | 1, hd =>
    have : d = .ptr 0 := by simpa using hd.symm
    subst this
    exact ⟨_, h1, .ptr rfl⟩
  | 0, hd => simp at hd
  | i + 2, hd =>
    have hd : (List.replicate n (none : Option D))[i]? = some (some d) := hd
    rw [List.getElem?_replicate] at hd
    split at hd <;> cases hd
theorem ends_law {G : Gd} {as : List Addr} {H : Hp} {E : Ends} {P : DEnds} (hP : P = ⟨fun _ => False, fun x _ => x = .bl true, fun _ => False, fun _ => False⟩) (h : ∀ H', E.rt (.bl true) H') : EndsOk G P as H E := by
  subst hP
  exact ⟨fun _ _ _ _ z => z.elim, fun x st' as' v H' e _ r _ => by subst e; cases r; exact h H', fun _ _ _ _ z => z.elim, fun _ _ _ _ z => z.elim⟩
abbrev top (i : Nat) : Stmt := PySem.Challenge.pw_blotbook_k13_whole_books_seen_otherwise.main.body.getD i (.Pass ⟨0, 0, 0, 0⟩)
structure Txt (mg : Str → Option Value) : Prop where
  n_len : mg "len" = none
  n_range : mg "range" = none
  n_sum : mg "sum" = none
  n_enumerate : mg "enumerate" = none
  n_min : mg "min" = none
  n_max : mg "max" = none
  n_sorted : mg "sorted" = none
  n_dict : mg "dict" = none
  n_list : mg "list" = none
  c_MOST : ∃ t, mg "MOST" = some (.int (3) t)
  n_tuple : mg "tuple" = none
theorem bt_len : bootBuiltins "len" = some (.builtin "len") := by decide +kernel
theorem bt_sum : bootBuiltins "sum" = some (.builtin "sum") := by decide +kernel
theorem bt_min : bootBuiltins "min" = some (.builtin "min") := by decide +kernel
theorem bt_max : bootBuiltins "max" = some (.builtin "max") := by decide +kernel
theorem bt_sorted : bootBuiltins "sorted" = some (.builtin "sorted") := by decide +kernel
theorem bt_dict : bootBuiltins "dict" = some (.type "dict") := by decide +kernel
theorem bt_list : bootBuiltins "list" = some (.type "list") := by decide +kernel
theorem bt_tuple : bootBuiltins "tuple" = some (.type "tuple") := by decide +kernel
section
variable {P : Program} {w : World} {K : PySem.W.Frag} {mg : Str → Option Value} {base : Heap}
abbrev s_far_from_back : Stmt := top 1
theorem sc_far_from_back : FnScope ["shape", "about", "cell"] ["shape", "about", "cell"] (defScope s_far_from_back) := ⟨rfl, rfl, rfl, by decide +kernel, rfl, by decide +kernel, by decide +kernel⟩
theorem has_far_from_back {f : Addr} {fd : FuncData} (T : Txt mg) (hF : Fun K "far_from_back" "far_from_back" s_far_from_back f fd) (hmg : mg "far_from_back" = some (.ref f)) (hb : Binds K fd ["shape", "about", "cell"] [])  : Has P w K mg base "far_from_back" 1 3 F_far_from_back :=
  has_of hF sc_far_from_back rfl hmg hb (b_far_from_back) (fun cdv A outer s H E hr =>
    have hu := hr.units
    have hu1 := hu_1 hr
    have hu2 := hu_2 hr
    (ds_one (dp_ret (de_ifExp (dt_cmp (ro_eq hu) (de_var 1) de_int) (de_op ro_sub (de_op ro_sub (de_ixA hu (de_var 0) de_int) de_int) (de_var 2)) (de_var 2))))) (sp_far_from_back)
abbrev s_touched : Stmt := top 2
theorem sc_touched : FnScope ["shape", "stand", "spot", "leaf", "side", "cell", "place", "over", "about", "other", "name", "turned", "round_so", "facing", "part"] ["shape", "stand", "spot"] (defScope s_touched) := ⟨rfl, rfl, rfl, by decide +kernel, rfl, by decide +kernel, by decide +kernel⟩
theorem has_touched {f : Addr} {fd : FuncData} (T : Txt mg) (hF : Fun K "touched" "touched" s_touched f fd) (hmg : mg "touched" = some (.ref f)) (hb : Binds K fd ["shape", "stand", "spot"] []) (h_far_from_back : Has P w K mg base "far_from_back" 1 3 F_far_from_back) : Has P w K mg base "touched" 2 3 F_touched :=
  has_of hF sc_touched rfl hmg hb (b_touched) (fun cdv A outer s H E hr =>
    have hu := hr.units
    have hu1 := hu_1 hr
    have hu2 := hu_2 hr
    (ds_cons (dp_asg (de_var 2) (dg_tup rfl (dgs_cons (dg_name (vs := [3, 4, 5]) sc_touched.nd rfl (by first | exact .inl rfl | exact .inr rfl) (by decide)) (dgs_cons (dg_name (vs := [3, 4, 5]) sc_touched.nd rfl (by first | exact .inl rfl | exact .inr rfl) (by decide)) (dgs_cons (dg_name (vs := [3, 4, 5]) sc_touched.nd rfl (by first | exact .inl rfl | exact .inr rfl) (by decide)) dgs_nil)))))
    (ds_cons (dp_set (i := 6) sc_touched.nd rfl (by first | exact .inl rfl | exact .inr rfl) (de_bm slot_index rfl (rm_idx hu1) (de_lc (own := [("part", 14)]) rfl sc_touched.nd (di_seq (de_var 1)) (blkOk_by (N := ["shape", "stand", "spot", "leaf", "side", "cell", "place", "over", "about", "other", "name", "turned", "round_so", "facing", "part"]) (sc := defScope s_touched) (by decide +kernel)) (fun _ _ _ _ _ => (dg_name (vs := [14]) sc_touched.nd rfl (by first | exact .inl rfl | exact .inr rfl) (by decide))) (fun _ _ _ _ _ => dts_nil) (fun _ _ _ _ _ => (de_ixA hu (de_var 14) de_int))) (da_cons (de_var 3) da_nil)))
    (ds_cons (dp_asg (de_sl (de_ixA hu (de_var 1) (de_var 6)) (do_some de_int) do_no) (dg_tup rfl (dgs_cons (dg_name (vs := [7, 8]) sc_touched.nd rfl (by first | exact .inl rfl | exact .inr rfl) (by decide)) (dgs_cons (dg_name (vs := [7, 8]) sc_touched.nd rfl (by first | exact .inl rfl | exact .inr rfl) (by decide)) dgs_nil))))
    (ds_cons (dp_set (i := 9) sc_touched.nd rfl (by first | exact .inl rfl | exact .inr rfl) (de_ifExp (dt_cmp (ro_eq hu) (de_var 4) (de_var 7)) (de_op ro_sub (de_var 6) de_int) (de_op ro_add (de_var 6) de_int)))
    (ds_cons (dp_if (dt_not (dt_chain ro_le ro_lt de_int (de_var 9) (de_bt (rb_len) (by rfl) T.n_len bt_len (da_cons (de_var 1) da_nil)))) (ds_one (dp_ret de_non)) ds_nil)
    (ds_cons (dp_asg (de_ixA hu (de_var 1) (de_var 9)) (dg_tup rfl (dgs_cons (dg_name (vs := [10, 11, 12]) sc_touched.nd rfl (by first | exact .inl rfl | exact .inr rfl) (by decide)) (dgs_cons (dg_name (vs := [10, 11, 12]) sc_touched.nd rfl (by first | exact .inl rfl | exact .inr rfl) (by decide)) (dgs_cons (dg_name (vs := [10, 11, 12]) sc_touched.nd rfl (by first | exact .inl rfl | exact .inr rfl) (by decide)) dgs_nil)))))
    (ds_cons (dp_set (i := 13) sc_touched.nd rfl (by first | exact .inl rfl | exact .inr rfl) (de_ifExp (dt_cmp ro_lt (de_var 9) (de_var 6)) (de_op ro_sub de_int (de_var 11)) (de_var 11)))
    (ds_one (dp_ret (de_tup (da_cons (de_var 10) (da_cons (de_var 13) (da_cons (de_call h_far_from_back (hr.mono (by decide)) (by rfl) (da_cons (de_var 0) (da_cons (de_var 12) (da_cons (de_call h_far_from_back (hr.mono (by decide)) (by rfl) (da_cons (de_var 0) (da_cons (de_var 8) (da_cons (de_var 5) da_nil)))) da_nil)))) da_nil)))))))))))))) (sp_touched)
abbrev s_pairs_at : Stmt := top 3
theorem sc_pairs_at : FnScope ["shape", "stand", "gap", "leaf", "over", "about", "found", "cell", "spot"] ["shape", "stand", "gap"] (defScope s_pairs_at) := ⟨rfl, rfl, rfl, by decide +kernel, rfl, by decide +kernel, by decide +kernel⟩
theorem has_pairs_at {f : Addr} {fd : FuncData} (T : Txt mg) (hF : Fun K "pairs_at" "pairs_at" s_pairs_at f fd) (hmg : mg "pairs_at" = some (.ref f)) (hb : Binds K fd ["shape", "stand", "gap"] []) (h_touched : Has P w K mg base "touched" 2 3 F_touched) : Has P w K mg base "pairs_at" 3 3 F_pairs_at :=
  has_of hF sc_pairs_at rfl hmg hb (b_pairs_at) (fun cdv A outer s H E hr =>
    have hu := hr.units
    have hu1 := hu_1 hr
    have hu2 := hu_2 hr
    (ds_cons (dp_asg (de_ixA hu (de_var 1) (de_var 2)) (dg_tup rfl (dgs_cons (dg_name (vs := [3, 4, 5]) sc_pairs_at.nd rfl (by first | exact .inl rfl | exact .inr rfl) (by decide)) (dgs_cons (dg_name (vs := [3, 4, 5]) sc_pairs_at.nd rfl (by first | exact .inl rfl | exact .inr rfl) (by decide)) (dgs_cons (dg_name (vs := [3, 4, 5]) sc_pairs_at.nd rfl (by first | exact .inl rfl | exact .inr rfl) (by decide)) dgs_nil)))))
    (ds_cons (dp_set (i := 6) sc_pairs_at.nd rfl (by first | exact .inl rfl | exact .inr rfl) (de_newL da_nil))
    (ds_cons (dp_for PassesOwn.never rfl (di_range1 (by rfl) T.n_range (da_cons (de_ixA hu (de_var 0) de_int) da_nil)) (dg_name (vs := [7]) sc_pairs_at.nd rfl (by first | exact .inl rfl | exact .inr rfl) (by decide))
    (ds_cons (dp_set (i := 8) sc_pairs_at.nd rfl (by first | exact .inl rfl | exact .inr rfl) (de_tup (da_cons (de_var 3) (da_cons (de_op ro_sub de_int (de_var 4)) (da_cons (de_var 7) da_nil)))))
    (ds_one (dp_expr (de_bm slot_append rfl rm_app (de_var 6) (da_cons (de_tup (da_cons (de_var 8) (da_cons (de_call h_touched (hr.mono (by decide)) (by rfl) (da_cons (de_var 0) (da_cons (de_var 1) (da_cons (de_var 8) da_nil)))) da_nil))) da_nil))))))
    (ds_one (dp_ret (de_frz (de_var 6)))))))) (sp_pairs_at)
abbrev s_takes : Stmt := top 4
theorem sc_takes : FnScope ["deed"] ["deed"] (defScope s_takes) := ⟨rfl, rfl, rfl, by decide +kernel, rfl, by decide +kernel, by decide +kernel⟩
theorem has_takes {f : Addr} {fd : FuncData} (T : Txt mg) (hF : Fun K "takes" "takes" s_takes f fd) (hmg : mg "takes" = some (.ref f)) (hb : Binds K fd ["deed"] [])  : Has P w K mg base "takes" 1 1 F_takes :=
  has_of hF sc_takes rfl hmg hb (b_takes) (fun cdv A outer s H E hr =>
    have hu := hr.units
    have hu1 := hu_1 hr
    have hu2 := hu_2 hr
    (ds_one (dp_ret (de_ifExp (dt_cmp (ro_eq hu) (de_ixA hu (de_var 0) de_int) de_str) (de_ixA hu (de_var 0) de_int) de_int)))) (sp_takes)
abbrev s_ticks : Stmt := top 5
theorem sc_ticks : FnScope ["row", "deed"] ["row"] (defScope s_ticks) := ⟨rfl, rfl, rfl, by decide +kernel, rfl, by decide +kernel, by decide +kernel⟩
theorem has_ticks {f : Addr} {fd : FuncData} (T : Txt mg) (hF : Fun K "ticks" "ticks" s_ticks f fd) (hmg : mg "ticks" = some (.ref f)) (hb : Binds K fd ["row"] []) (h_takes : Has P w K mg base "takes" 1 1 F_takes) : Has P w K mg base "ticks" 2 1 F_ticks :=
  has_of hF sc_ticks rfl hmg hb (b_ticks) (fun cdv A outer s H E hr =>
    have hu := hr.units
    have hu1 := hu_1 hr
    have hu2 := hu_2 hr
    (ds_one (dp_ret (de_bt (rb_sum rfl) (by rfl) T.n_sum bt_sum (da_cons (de_lc (own := [("deed", 1)]) rfl sc_ticks.nd (di_seq (de_var 0)) (blkOk_by (N := ["row", "deed"]) (sc := defScope s_ticks) (by decide +kernel)) (fun _ _ _ _ _ => (dg_name (vs := [1]) sc_ticks.nd rfl (by first | exact .inl rfl | exact .inr rfl) (by decide))) (fun _ _ _ _ _ => dts_nil) (fun _ _ _ _ _ => (de_call h_takes (hr.mono (by decide)) (by rfl) (da_cons (de_var 1) da_nil)))) da_nil))))) (sp_ticks)
abbrev s_moved : Stmt := top 6
theorem sc_moved : FnScope ["stand", "deed", "word", "place", "leaf", "over", "about", "fresh"] ["stand", "deed"] (defScope s_moved) := ⟨rfl, rfl, rfl, by decide +kernel, rfl, by decide +kernel, by decide +kernel⟩
theorem has_moved {f : Addr} {fd : FuncData} (T : Txt mg) (hF : Fun K "moved" "moved" s_moved f fd) (hmg : mg "moved" = some (.ref f)) (hb : Binds K fd ["stand", "deed"] [])  : Has P w K mg base "moved" 1 2 F_moved :=
  has_of hF sc_moved rfl hmg hb (b_moved) (fun cdv A outer s H E hr =>
    have hu := hr.units
    have hu1 := hu_1 hr
    have hu2 := hu_2 hr
    (ds_cons (dp_asg (de_var 1) (dg_tup rfl (dgs_cons (dg_name (vs := [2, 3]) sc_moved.nd rfl (by first | exact .inl rfl | exact .inr rfl) (by decide)) (dgs_cons (dg_name (vs := [2, 3]) sc_moved.nd rfl (by first | exact .inl rfl | exact .inr rfl) (by decide)) dgs_nil))))
    (ds_cons (dp_if (dt_cmp (ro_eq hu) (de_var 2) de_str) (ds_one (dp_ret (de_op ro_add (de_op ro_add (de_sl (de_var 0) do_no (do_some (de_var 3))) (de_tup (da_cons (de_ixA hu (de_var 0) (de_op ro_add (de_var 3) de_int)) (da_cons (de_ixA hu (de_var 0) (de_var 3)) da_nil)))) (de_sl (de_var 0) (do_some (de_op ro_add (de_var 3) de_int)) do_no)))) ds_nil)
    (ds_cons (dp_if (dt_cmp (ro_notIn hu2) (de_var 2) (de_tup (da_cons de_str (da_cons de_str da_nil)))) (ds_one (dp_ret (de_var 0))) ds_nil)
    (ds_cons (dp_asg (de_ixA hu (de_var 0) (de_var 3)) (dg_tup rfl (dgs_cons (dg_name (vs := [4, 5, 6]) sc_moved.nd rfl (by first | exact .inl rfl | exact .inr rfl) (by decide)) (dgs_cons (dg_name (vs := [4, 5, 6]) sc_moved.nd rfl (by first | exact .inl rfl | exact .inr rfl) (by decide)) (dgs_cons (dg_name (vs := [4, 5, 6]) sc_moved.nd rfl (by first | exact .inl rfl | exact .inr rfl) (by decide)) dgs_nil)))))
    (ds_cons (dp_set (i := 7) sc_moved.nd rfl (by first | exact .inl rfl | exact .inr rfl) (de_ifExp (dt_cmp (ro_eq hu) (de_var 2) de_str) (de_tup (da_cons (de_var 4) (da_cons (de_op ro_sub de_int (de_var 5)) (da_cons (de_var 6) da_nil)))) (de_tup (da_cons (de_var 4) (da_cons (de_var 5) (da_cons (de_op ro_sub de_int (de_var 6)) da_nil))))))
    (ds_one (dp_ret (de_op ro_add (de_op ro_add (de_sl (de_var 0) do_no (do_some (de_var 3))) (de_tup (da_cons (de_var 7) da_nil))) (de_sl (de_var 0) (do_some (de_op ro_add (de_var 3) de_int)) do_no)))))))))) (sp_moved)
abbrev s_presses : Stmt := top 7
theorem sc_presses : FnScope ["shape", "stand", "row", "found", "tick", "at", "deed"] ["shape", "stand", "row"] (defScope s_presses) := ⟨rfl, rfl, rfl, by decide +kernel, rfl, by decide +kernel, by decide +kernel⟩
theorem has_presses {f : Addr} {fd : FuncData} (T : Txt mg) (hF : Fun K "presses" "presses" s_presses f fd) (hmg : mg "presses" = some (.ref f)) (hb : Binds K fd ["shape", "stand", "row"] []) (h_pairs_at : Has P w K mg base "pairs_at" 3 3 F_pairs_at) (h_moved : Has P w K mg base "moved" 1 2 F_moved) (h_takes : Has P w K mg base "takes" 1 1 F_takes) : Has P w K mg base "presses" 4 3 F_presses :=
  has_of hF sc_presses rfl hmg hb (b_presses) (fun cdv A outer s H E hr =>
    have hu := hr.units
    have hu1 := hu_1 hr
    have hu2 := hu_2 hr
    (ds_cons (dp_set (i := 3) sc_presses.nd rfl (by first | exact .inl rfl | exact .inr rfl) (de_newL da_nil))
    (ds_cons (dp_set (i := 4) sc_presses.nd rfl (by first | exact .inl rfl | exact .inr rfl) de_int)
    (ds_cons (dp_for PassesOwn.never rfl (di_enum (by rfl) T.n_enumerate (da_cons (de_var 2) da_nil)) (dg_tup rfl (dgs_cons (dg_name (vs := [5, 6]) sc_presses.nd rfl (by first | exact .inl rfl | exact .inr rfl) (by decide)) (dgs_cons (dg_name (vs := [5, 6]) sc_presses.nd rfl (by first | exact .inl rfl | exact .inr rfl) (by decide)) dgs_nil)))
    (ds_cons (dp_if (dt_cmp (ro_eq hu) (de_ixA hu (de_var 6) de_int) de_str) (ds_one (dp_expr (de_bm slot_append rfl rm_app (de_var 3) (da_cons (de_tup (da_cons (de_var 5) (da_cons (de_var 4) (da_cons (de_call h_pairs_at (hr.mono (by decide)) (by rfl) (da_cons (de_var 0) (da_cons (de_var 1) (da_cons (de_ixA hu (de_var 6) de_int) da_nil)))) da_nil)))) da_nil)))) ds_nil)
    (ds_cons (dp_set (i := 1) sc_presses.nd rfl (by first | exact .inl rfl | exact .inr rfl) (de_call h_moved (hr.mono (by decide)) (by rfl) (da_cons (de_var 1) (da_cons (de_var 6) da_nil))))
    (ds_one (dp_aug (i := 4) sc_presses.nd rfl (by first | exact .inl rfl | exact .inr rfl) (de_call h_takes (hr.mono (by decide)) (by rfl) (da_cons (de_var 6) da_nil)))))))
    (ds_one (dp_ret (de_frz (de_var 3)))))))) (sp_presses)
abbrev s_put_on : Stmt := top 9
theorem sc_put_on : FnScope ["found", "spot", "since", "dry", "old"] ["found", "spot", "since", "dry"] (defScope s_put_on) := ⟨rfl, rfl, rfl, by decide +kernel, rfl, by decide +kernel, by decide +kernel⟩
theorem has_put_on {f : Addr} {fd : FuncData} (T : Txt mg) (hF : Fun K "put_on" "put_on" s_put_on f fd) (hmg : mg "put_on" = some (.ref f)) (hb : Binds K fd ["found", "spot", "since", "dry"] [])  : Has P w K mg base "put_on" 1 4 F_put_on :=
  has_of hF sc_put_on rfl hmg hb (b_put_on) (fun cdv A outer s H E hr =>
    have hu := hr.units
    have hu1 := hu_1 hr
    have hu2 := hu_2 hr
    (ds_cons (dp_set (i := 4) sc_put_on.nd rfl (by first | exact .inl rfl | exact .inr rfl) (de_get2 hu (de_var 0) (de_var 1) (de_tup (da_cons (de_var 2) (da_cons (de_var 3) da_nil))) ⟨by rfl, by rfl, by rfl, by rfl⟩))
    (ds_one (dp_asg (de_tup (da_cons (de_bt (rb_min2 rfl) (by rfl) T.n_min bt_min (da_cons (de_ixA hu (de_var 4) de_int) (da_cons (de_var 2) da_nil))) (da_cons (de_bt (rb_max2 rfl) (by rfl) T.n_max bt_max (da_cons (de_ixA hu (de_var 4) de_int) (da_cons (de_var 3) da_nil))) da_nil))) (dg_sub (vs := []) (de_var 0) (de_var 1) (ps_setA hu)))))) (sp_put_on)
abbrev s_pressed : Stmt := top 10
theorem sc_pressed : FnScope ["found", "tick", "pairs", "fresh", "one", "other", "had", "wet", "spot", "mark"] ["found", "tick", "pairs"] (defScope s_pressed) := ⟨rfl, rfl, rfl, by decide +kernel, rfl, by decide +kernel, by decide +kernel⟩
theorem has_pressed {f : Addr} {fd : FuncData} (T : Txt mg) (hF : Fun K "pressed" "pressed" s_pressed f fd) (hmg : mg "pressed" = some (.ref f)) (hb : Binds K fd ["found", "tick", "pairs"] []) (h_put_on : Has P w K mg base "put_on" 1 4 F_put_on) : Has P w K mg base "pressed" 2 3 F_pressed :=
  has_of hF sc_pressed rfl hmg hb (b_pressed) (fun cdv A outer s H E hr =>
    have hu := hr.units
    have hu1 := hu_1 hr
    have hu2 := hu_2 hr
    (ds_cons (dp_set (i := 3) sc_pressed.nd rfl (by first | exact .inl rfl | exact .inr rfl) (de_newL da_nil))
    (ds_cons (dp_for PassesOwn.never rfl (di_seq (de_var 2)) (dg_tup rfl (dgs_cons (dg_name (vs := [4, 5]) sc_pressed.nd rfl (by first | exact .inl rfl | exact .inr rfl) (by decide)) (dgs_cons (dg_name (vs := [4, 5]) sc_pressed.nd rfl (by first | exact .inl rfl | exact .inr rfl) (by decide)) dgs_nil)))
    (ds_cons (dp_setLc (i := 6) (own := [("spot", 8)]) rfl sc_pressed.nd rfl rfl (sw_true rfl rfl rfl (by decide +kernel)) (di_seq (de_tup (da_cons (de_var 4) (da_cons (de_var 5) da_nil)))) (blkOk_by (N := ["found", "tick", "pairs", "fresh", "one", "other", "had", "wet", "spot", "mark"]) (sc := defScope s_pressed) (by decide +kernel)) (fun _ _ _ _ _ => (dg_name (vs := [8]) sc_pressed.nd rfl (by first | exact .inl rfl | exact .inr rfl) (by decide))) (fun _ _ _ _ _ => (dts_one (dt_cmp (ro_in hu2) (de_var 8) (de_var 0)))) (fun _ _ _ _ _ => (de_tup (da_cons (de_var 8) (da_cons (de_ixA hu (de_var 0) (de_var 8)) da_nil)))))
    (ds_cons (dp_setLc (i := 7) (own := [("spot", 8), ("mark", 9)]) rfl sc_pressed.nd rfl rfl (sw_true rfl rfl rfl (by decide +kernel)) (di_seq (de_var 6)) (blkOk_by (N := ["found", "tick", "pairs", "fresh", "one", "other", "had", "wet", "spot", "mark"]) (sc := defScope s_pressed) (by decide +kernel)) (fun _ _ _ _ _ => (dg_tup rfl (dgs_cons (dg_name (vs := [8, 9]) sc_pressed.nd rfl (by first | exact .inl rfl | exact .inr rfl) (by decide)) (dgs_cons (dg_name (vs := [8, 9]) sc_pressed.nd rfl (by first | exact .inl rfl | exact .inr rfl) (by decide)) dgs_nil)))) (fun _ _ _ _ _ => (dts_one (dt_cmp ro_lt (de_var 1) (de_ixA hu (de_var 9) de_int)))) (fun _ _ _ _ _ => (de_ixA hu (de_var 9) de_int)))
    (ds_one (dp_if (dt_cmp (ro_ne hu) (de_var 7) (de_lst da_nil)) (ds_cons (dp_expr (de_bm slot_extend rfl rm_ext (de_var 3) (da_cons (de_lc (own := [("spot", 8)]) rfl sc_pressed.nd (di_seq (de_tup (da_cons (de_var 4) (da_cons (de_var 5) da_nil)))) (blkOk_by (N := ["found", "tick", "pairs", "fresh", "one", "other", "had", "wet", "spot", "mark"]) (sc := defScope s_pressed) (by decide +kernel)) (fun _ _ _ _ _ => (dg_name (vs := [8]) sc_pressed.nd rfl (by first | exact .inl rfl | exact .inr rfl) (by decide))) (fun _ _ _ _ _ => (dts_one (dt_cmp (ro_notIn hu2) (de_var 8) (de_var 0)))) (fun _ _ _ _ _ => (de_var 8))) da_nil)))
    (ds_one (dp_for PassesOwn.never rfl (di_seq (de_tup (da_cons (de_var 4) (da_cons (de_var 5) da_nil)))) (dg_name (vs := [8]) sc_pressed.nd rfl (by first | exact .inl rfl | exact .inr rfl) (by decide))
    (ds_one (dp_expr (de_call h_put_on (hr.mono (by decide)) (by rfl) (da_cons (de_var 0) (da_cons (de_var 8) (da_cons (de_var 1) (da_cons (de_bt (rb_maxL rfl) (by rfl) T.n_max bt_max (da_cons (de_var 7) da_nil)) da_nil)))))))))) ds_nil)))))
    (ds_one (dp_ret (de_frz (de_var 3))))))) (sp_pressed)
abbrev s_spread : Stmt := top 11
theorem sc_spread : FnScope ["shape", "stand", "row", "drops", "found", "left", "at", "tick", "pairs", "fallen", "spot", "wet"] ["shape", "stand", "row", "drops"] (defScope s_spread) := ⟨rfl, rfl, rfl, by decide +kernel, rfl, by decide +kernel, by decide +kernel⟩
theorem has_spread {f : Addr} {fd : FuncData} (T : Txt mg) (hF : Fun K "spread" "spread" s_spread f fd) (hmg : mg "spread" = some (.ref f)) (hb : Binds K fd ["shape", "stand", "row", "drops"] []) (h_presses : Has P w K mg base "presses" 4 3 F_presses) (h_put_on : Has P w K mg base "put_on" 1 4 F_put_on) (h_pressed : Has P w K mg base "pressed" 2 3 F_pressed) : Has P w K mg base "spread" 5 4 F_spread :=
  has_of hF sc_spread rfl hmg hb (b_spread) (fun cdv A outer s H E hr =>
    have hu := hr.units
    have hu1 := hu_1 hr
    have hu2 := hu_2 hr
    (ds_cons (dp_set (i := 4) sc_spread.nd rfl (by first | exact .inl rfl | exact .inr rfl) de_newT)
    (ds_cons (dp_set (i := 5) sc_spread.nd rfl (by first | exact .inl rfl | exact .inr rfl) (de_btN (rb_sortedN hu) (by rfl) T.n_sorted bt_sorted (da_cons (de_var 3) da_nil)))
    (ds_cons (dp_for PassesOwn.never rfl (di_seq (de_call h_presses (hr.mono (by decide)) (by rfl) (da_cons (de_var 0) (da_cons (de_var 1) (da_cons (de_var 2) da_nil))))) (dg_tup rfl (dgs_cons (dg_name (vs := [6, 7, 8]) sc_spread.nd rfl (by first | exact .inl rfl | exact .inr rfl) (by decide)) (dgs_cons (dg_name (vs := [6, 7, 8]) sc_spread.nd rfl (by first | exact .inl rfl | exact .inr rfl) (by decide)) (dgs_cons (dg_name (vs := [6, 7, 8]) sc_spread.nd rfl (by first | exact .inl rfl | exact .inr rfl) (by decide)) dgs_nil))))
    (ds_cons (dp_while PassesOwn.never (DWx.pt (dw_and (dt_cmp (ro_ne hu) (de_var 5) (de_lst da_nil)) (dw_and1 (dt_cmp ro_le (de_ixA hu (de_ixA hu (de_var 5) de_int) de_int) (de_var 7)))))
    (ds_cons (dp_asg (de_bm slot_pop rfl rm_pop0 (de_var 5) (da_cons de_int da_nil)) (dg_tup rfl (dgs_cons (dg_name (vs := [9, 10, 11]) sc_spread.nd rfl (by first | exact .inl rfl | exact .inr rfl) (by decide)) (dgs_cons (dg_name (vs := [9, 10, 11]) sc_spread.nd rfl (by first | exact .inl rfl | exact .inr rfl) (by decide)) (dgs_cons (dg_name (vs := [9, 10, 11]) sc_spread.nd rfl (by first | exact .inl rfl | exact .inr rfl) (by decide)) dgs_nil)))))
    (ds_one (dp_expr (de_call h_put_on (hr.mono (by decide)) (by rfl) (da_cons (de_var 4) (da_cons (de_var 10) (da_cons (de_var 9) (da_cons (de_op ro_add (de_var 9) (de_var 11)) da_nil)))))))))
    (ds_one (dp_expr (de_call h_pressed (hr.mono (by decide)) (by rfl) (da_cons (de_var 4) (da_cons (de_var 7) (da_cons (de_var 8) da_nil))))))))
    (ds_cons (dp_for PassesOwn.never rfl (di_seq (de_frz (de_var 5))) (dg_tup rfl (dgs_cons (dg_name (vs := [9, 10, 11]) sc_spread.nd rfl (by first | exact .inl rfl | exact .inr rfl) (by decide)) (dgs_cons (dg_name (vs := [9, 10, 11]) sc_spread.nd rfl (by first | exact .inl rfl | exact .inr rfl) (by decide)) (dgs_cons (dg_name (vs := [9, 10, 11]) sc_spread.nd rfl (by first | exact .inl rfl | exact .inr rfl) (by decide)) dgs_nil))))
    (ds_one (dp_expr (de_call h_put_on (hr.mono (by decide)) (by rfl) (da_cons (de_var 4) (da_cons (de_var 10) (da_cons (de_var 9) (da_cons (de_op ro_add (de_var 9) (de_var 11)) da_nil))))))))
    (ds_one (dp_ret (de_frz (de_var 4))))))))) (sp_spread)
abbrev s_marks : Stmt := top 12
theorem sc_marks : FnScope ["shape", "stand", "row", "drops", "found", "spot"] ["shape", "stand", "row", "drops"] (defScope s_marks) := ⟨rfl, rfl, rfl, by decide +kernel, rfl, by decide +kernel, by decide +kernel⟩
theorem has_marks {f : Addr} {fd : FuncData} (T : Txt mg) (hF : Fun K "marks" "marks" s_marks f fd) (hmg : mg "marks" = some (.ref f)) (hb : Binds K fd ["shape", "stand", "row", "drops"] []) (h_spread : Has P w K mg base "spread" 5 4 F_spread) : Has P w K mg base "marks" 6 4 F_marks :=
  has_of hF sc_marks rfl hmg hb (b_marks) (fun cdv A outer s H E hr =>
    have hu := hr.units
    have hu1 := hu_1 hr
    have hu2 := hu_2 hr
    (ds_cons (dp_set (i := 4) sc_marks.nd rfl (by first | exact .inl rfl | exact .inr rfl) (de_call h_spread (hr.mono (by decide)) (by rfl) (da_cons (de_var 0) (da_cons (de_var 1) (da_cons (de_var 2) (da_cons (de_var 3) da_nil))))))
    (ds_one (dp_ret (de_lc (own := [("spot", 5)]) rfl sc_marks.nd (di_seq (de_bt (rb_sortedA hu rfl) (by rfl) T.n_sorted bt_sorted (da_cons (de_var 4) da_nil))) (blkOk_by (N := ["shape", "stand", "row", "drops", "found", "spot"]) (sc := defScope s_marks) (by decide +kernel)) (fun _ _ _ _ _ => (dg_name (vs := [5]) sc_marks.nd rfl (by first | exact .inl rfl | exact .inr rfl) (by decide))) (fun _ _ _ _ _ => dts_nil) (fun _ _ _ _ _ => (de_op ro_add (de_tup (da_cons (de_var 5) da_nil)) (de_ixA hu (de_var 4) (de_var 5))))))))) (sp_marks)
abbrev s_partner : Stmt := top 13
theorem sc_partner : FnScope ["pairs", "spot", "one", "other"] ["pairs", "spot"] (defScope s_partner) := ⟨rfl, rfl, rfl, by decide +kernel, rfl, by decide +kernel, by decide +kernel⟩
theorem has_partner {f : Addr} {fd : FuncData} (T : Txt mg) (hF : Fun K "partner" "partner" s_partner f fd) (hmg : mg "partner" = some (.ref f)) (hb : Binds K fd ["pairs", "spot"] [])  : Has P w K mg base "partner" 1 2 F_partner :=
  has_of hF sc_partner rfl hmg hb (b_partner) (fun cdv A outer s H E hr =>
    have hu := hr.units
    have hu1 := hu_1 hr
    have hu2 := hu_2 hr
    (ds_cons (dp_for PassesOwn.never rfl (di_seq (de_var 0)) (dg_tup rfl (dgs_cons (dg_name (vs := [2, 3]) sc_partner.nd rfl (by first | exact .inl rfl | exact .inr rfl) (by decide)) (dgs_cons (dg_name (vs := [2, 3]) sc_partner.nd rfl (by first | exact .inl rfl | exact .inr rfl) (by decide)) dgs_nil)))
    (ds_one (dp_if (dt_cmp (ro_in hu2) (de_var 1) (de_tup (da_cons (de_var 2) (da_cons (de_var 3) da_nil)))) (ds_one (dp_ret (de_ifExp (dt_cmp (ro_eq hu) (de_var 1) (de_var 2)) (de_var 3) (de_var 2)))) ds_nil)))
    (ds_one (dp_ret de_non)))) (sp_partner)
abbrev s_roads : Stmt := top 14
theorem sc_roads : FnScope ["shape", "stand", "row", "drop", "fallen", "spot", "wet", "found", "at", "tick", "pairs", "ahead", "here", "since", "many", "road", "there"] ["shape", "stand", "row", "drop"] (defScope s_roads) := ⟨rfl, rfl, rfl, by decide +kernel, rfl, by decide +kernel, by decide +kernel⟩
theorem has_roads {f : Addr} {fd : FuncData} (T : Txt mg) (hF : Fun K "roads" "roads" s_roads f fd) (hmg : mg "roads" = some (.ref f)) (hb : Binds K fd ["shape", "stand", "row", "drop"] []) (h_presses : Has P w K mg base "presses" 4 3 F_presses) (h_partner : Has P w K mg base "partner" 1 2 F_partner) : Has P w K mg base "roads" 5 4 F_roads :=
  has_of hF sc_roads rfl hmg hb (b_roads w) (fun cdv A outer s H E hr =>
    have hu := hr.units
    have hu1 := hu_1 hr
    have hu2 := hu_2 hr
    (ds_cons (dp_asg (de_var 3) (dg_tup rfl (dgs_cons (dg_name (vs := [4, 5, 6]) sc_roads.nd rfl (by first | exact .inl rfl | exact .inr rfl) (by decide)) (dgs_cons (dg_name (vs := [4, 5, 6]) sc_roads.nd rfl (by first | exact .inl rfl | exact .inr rfl) (by decide)) (dgs_cons (dg_name (vs := [4, 5, 6]) sc_roads.nd rfl (by first | exact .inl rfl | exact .inr rfl) (by decide)) dgs_nil)))))
    (ds_cons (dp_set (i := 7) sc_roads.nd rfl (by first | exact .inl rfl | exact .inr rfl) (de_oneT hu (de_var 5) (de_tup (da_cons (de_var 4) (da_cons de_int (da_cons (de_tup da_nil) da_nil))))))
    (ds_cons (dp_for PassesOwn.never rfl (di_seq (de_call h_presses (hr.mono (by decide)) (by rfl) (da_cons (de_var 0) (da_cons (de_var 1) (da_cons (de_var 2) da_nil))))) (dg_tup rfl (dgs_cons (dg_name (vs := [8, 9, 10]) sc_roads.nd rfl (by first | exact .inl rfl | exact .inr rfl) (by decide)) (dgs_cons (dg_name (vs := [8, 9, 10]) sc_roads.nd rfl (by first | exact .inl rfl | exact .inr rfl) (by decide)) (dgs_cons (dg_name (vs := [8, 9, 10]) sc_roads.nd rfl (by first | exact .inl rfl | exact .inr rfl) (by decide)) dgs_nil))))
    (ds_one (dp_if (dt_chain ro_le ro_lt (de_var 4) (de_var 9) (de_op ro_add (de_var 4) (de_var 6))) (ds_cons (dp_set (i := 11) sc_roads.nd rfl (by first | exact .inl rfl | exact .inr rfl) (de_ty (rb_dictOf hu) (by rfl) T.n_dict bt_dict (da_cons (de_var 7) da_nil)))
    (ds_one (dp_for PassesOwn.never rfl (di_items (de_var 11)) (dg_tup rfl (dgs_cons (dg_name (vs := [12, 13, 14, 15]) sc_roads.nd rfl (by first | exact .inl rfl | exact .inr rfl) (by decide)) (dgs_cons (dg_tup rfl (dgs_cons (dg_name (vs := [12, 13, 14, 15]) sc_roads.nd rfl (by first | exact .inl rfl | exact .inr rfl) (by decide)) (dgs_cons (dg_name (vs := [12, 13, 14, 15]) sc_roads.nd rfl (by first | exact .inl rfl | exact .inr rfl) (by decide)) (dgs_cons (dg_name (vs := [12, 13, 14, 15]) sc_roads.nd rfl (by first | exact .inl rfl | exact .inr rfl) (by decide)) dgs_nil)))) dgs_nil)))
    (ds_cons (dp_set (i := 16) sc_roads.nd rfl (by first | exact .inl rfl | exact .inr rfl) (de_call h_partner (hr.mono (by decide)) (by rfl) (da_cons (de_var 10) (da_cons (de_var 12) da_nil))))
    (ds_one (dp_if (DWx.pt (dw_and (dt_notN (de_var 16)) (dw_and1 (dt_cmp (ro_notIn hu2) (de_var 16) (de_var 11))))) (ds_one (dp_asg (de_tup (da_cons (de_var 9) (da_cons (de_op ro_add (de_var 14) de_int) (da_cons (de_op ro_add (de_var 15) (de_tup (da_cons (de_var 8) da_nil))) da_nil)))) (dg_sub (vs := []) (de_var 7) (de_var 16) (ps_setA hu)))) ds_nil)))))) ds_nil)))
    (ds_one (dp_ret (de_frz (de_var 7)))))))) (sp_roads w)
abbrev s_is_better : Stmt := top 15
theorem sc_is_better : FnScope ["one", "other"] ["one", "other"] (defScope s_is_better) := ⟨rfl, rfl, rfl, by decide +kernel, rfl, by decide +kernel, by decide +kernel⟩
theorem has_is_better {f : Addr} {fd : FuncData} (T : Txt mg) (hF : Fun K "is_better" "is_better" s_is_better f fd) (hmg : mg "is_better" = some (.ref f)) (hb : Binds K fd ["one", "other"] [])  : Has P w K mg base "is_better" 1 2 F_is_better :=
  has_of hF sc_is_better rfl hmg hb (b_is_better) (fun cdv A outer s H E hr =>
    have hu := hr.units
    have hu1 := hu_1 hr
    have hu2 := hu_2 hr
    (ds_one (dp_ret (de_or (de_isN (de_var 1)) (de_one (de_cmp (ro_ltD hu) (de_tup (da_cons (de_bt (rb_len) (by rfl) T.n_len bt_len (da_cons (de_var 0) da_nil)) (da_cons (de_var 0) da_nil))) (de_tup (da_cons (de_bt (rb_len) (by rfl) T.n_len bt_len (da_cons (de_var 1) da_nil)) (da_cons (de_var 1) da_nil))))))))) (sp_is_better)
abbrev s_best_road : Stmt := top 16
theorem sc_best_road : FnScope ["shape", "stand", "row", "drop", "goal", "told", "fallen", "spot", "wet", "known", "at", "tick", "pairs", "fresh", "here", "road", "there"] ["shape", "stand", "row", "drop", "goal"] (defScope s_best_road) := ⟨rfl, rfl, rfl, by decide +kernel, rfl, by decide +kernel, by decide +kernel⟩
theorem has_best_road {f : Addr} {fd : FuncData} (T : Txt mg) (hF : Fun K "best_road" "best_road" s_best_road f fd) (hmg : mg "best_road" = some (.ref f)) (hb : Binds K fd ["shape", "stand", "row", "drop", "goal"] []) (h_roads : Has P w K mg base "roads" 5 4 F_roads) (h_presses : Has P w K mg base "presses" 4 3 F_presses) (h_partner : Has P w K mg base "partner" 1 2 F_partner) (h_is_better : Has P w K mg base "is_better" 1 2 F_is_better) : Has P w K mg base "best_road" 6 5 F_best_road :=
  has_of hF sc_best_road rfl hmg hb (b_best_road w) (fun cdv A outer s H E hr =>
    have hu := hr.units
    have hu1 := hu_1 hr
    have hu2 := hu_2 hr
    (ds_cons (dp_set (i := 5) sc_best_road.nd rfl (by first | exact .inl rfl | exact .inr rfl) (de_get2 hu (de_call h_roads (hr.mono (by decide)) (by rfl) (da_cons (de_var 0) (da_cons (de_var 1) (da_cons (de_var 2) (da_cons (de_var 3) da_nil))))) (de_var 4) de_non ⟨by rfl, by rfl, by rfl, by rfl⟩))
    (ds_cons (dp_if (dt_isN (de_var 5)) (ds_one (dp_ret de_non)) ds_nil)
    (ds_cons (dp_asg (de_var 3) (dg_tup rfl (dgs_cons (dg_name (vs := [6, 7, 8]) sc_best_road.nd rfl (by first | exact .inl rfl | exact .inr rfl) (by decide)) (dgs_cons (dg_name (vs := [6, 7, 8]) sc_best_road.nd rfl (by first | exact .inl rfl | exact .inr rfl) (by decide)) (dgs_cons (dg_name (vs := [6, 7, 8]) sc_best_road.nd rfl (by first | exact .inl rfl | exact .inr rfl) (by decide)) dgs_nil)))))
    (ds_cons (dp_set (i := 9) sc_best_road.nd rfl (by first | exact .inl rfl | exact .inr rfl) (de_frz (de_oneT hu (de_var 7) (de_tup da_nil))))
    (ds_cons (dp_for PassesOwn.never rfl (di_seq (de_call h_presses (hr.mono (by decide)) (by rfl) (da_cons (de_var 0) (da_cons (de_var 1) (da_cons (de_var 2) da_nil))))) (dg_tup rfl (dgs_cons (dg_name (vs := [10, 11, 12]) sc_best_road.nd rfl (by first | exact .inl rfl | exact .inr rfl) (by decide)) (dgs_cons (dg_name (vs := [10, 11, 12]) sc_best_road.nd rfl (by first | exact .inl rfl | exact .inr rfl) (by decide)) (dgs_cons (dg_name (vs := [10, 11, 12]) sc_best_road.nd rfl (by first | exact .inl rfl | exact .inr rfl) (by decide)) dgs_nil))))
    (ds_one (dp_if (DWx.pt (dw_and (dt_chain ro_le ro_le (de_var 6) (de_var 11) (de_ixA hu (de_var 5) de_int)) (dw_and1 (dt_cmp ro_lt (de_var 11) (de_op ro_add (de_var 6) (de_var 8)))))) (ds_cons (dp_set (i := 13) sc_best_road.nd rfl (by first | exact .inl rfl | exact .inr rfl) (de_dictNew hu (by rfl) T.n_dict bt_dict (de_var 9)))
    (ds_cons (dp_for PassesOwn.never rfl (di_items (de_var 9)) (dg_tup rfl (dgs_cons (dg_name (vs := [14, 15]) sc_best_road.nd rfl (by first | exact .inl rfl | exact .inr rfl) (by decide)) (dgs_cons (dg_name (vs := [14, 15]) sc_best_road.nd rfl (by first | exact .inl rfl | exact .inr rfl) (by decide)) dgs_nil)))
    (ds_cons (dp_set (i := 16) sc_best_road.nd rfl (by first | exact .inl rfl | exact .inr rfl) (de_call h_partner (hr.mono (by decide)) (by rfl) (da_cons (de_var 12) (da_cons (de_var 14) da_nil))))
    (ds_one (dp_if (DWx.pt (dw_and (dt_notN (de_var 16)) (dw_and1 (dt_val (de_call h_is_better (hr.mono (by decide)) (by rfl) (da_cons (de_op ro_add (de_var 15) (de_tup (da_cons (de_var 10) da_nil))) (da_cons (de_get2 hu (de_var 13) (de_var 16) de_non ⟨by rfl, by rfl, by rfl, by rfl⟩) da_nil))))))) (ds_one (dp_asg (de_op ro_add (de_var 15) (de_tup (da_cons (de_var 10) da_nil))) (dg_sub (vs := []) (de_var 13) (de_var 16) (ps_setA hu)))) ds_nil))))
    (ds_one (dp_set (i := 9) sc_best_road.nd rfl (by first | exact .inl rfl | exact .inr rfl) (de_frz (de_var 13)))))) ds_nil)))
    (ds_one (dp_ret (de_ixA hu (de_var 9) (de_var 4)))))))))) (sp_best_road w)
abbrev s_road : Stmt := top 17
theorem sc_road : FnScope ["shape", "stand", "row", "drop", "goal"] ["shape", "stand", "row", "drop", "goal"] (defScope s_road) := ⟨rfl, rfl, rfl, by decide +kernel, rfl, by decide +kernel, by decide +kernel⟩
theorem has_road {f : Addr} {fd : FuncData} (T : Txt mg) (hF : Fun K "road" "road" s_road f fd) (hmg : mg "road" = some (.ref f)) (hb : Binds K fd ["shape", "stand", "row", "drop", "goal"] []) (h_best_road : Has P w K mg base "best_road" 6 5 F_best_road) : Has P w K mg base "road" 7 5 F_road :=
  has_of hF sc_road rfl hmg hb (b_road) (fun cdv A outer s H E hr =>
    have hu := hr.units
    have hu1 := hu_1 hr
    have hu2 := hu_2 hr
    (ds_one (dp_ret (de_ifExp (dt_cmp (ro_eq hu) (de_ixA hu (de_var 3) de_int) (de_var 4)) (de_tup da_nil) (de_call h_best_road (hr.mono (by decide)) (by rfl) (da_cons (de_var 0) (da_cons (de_var 1) (da_cons (de_var 2) (da_cons (de_var 3) (da_cons (de_var 4) da_nil)))))))))) (sp_road)
abbrev s_last_tick : Stmt := top 18
theorem sc_last_tick : FnScope ["shape", "stand", "row", "spot", "goal", "known", "at", "tick", "pairs", "one", "other", "here", "there"] ["shape", "stand", "row", "spot", "goal"] (defScope s_last_tick) := ⟨rfl, rfl, rfl, by decide +kernel, rfl, by decide +kernel, by decide +kernel⟩
theorem has_last_tick {f : Addr} {fd : FuncData} (T : Txt mg) (hF : Fun K "last_tick" "last_tick" s_last_tick f fd) (hmg : mg "last_tick" = some (.ref f)) (hb : Binds K fd ["shape", "stand", "row", "spot", "goal"] []) (h_ticks : Has P w K mg base "ticks" 2 1 F_ticks) (h_presses : Has P w K mg base "presses" 4 3 F_presses) : Has P w K mg base "last_tick" 5 5 F_last_tick :=
  has_of hF sc_last_tick rfl hmg hb (b_last_tick) (fun cdv A outer s H E hr =>
    have hu := hr.units
    have hu1 := hu_1 hr
    have hu2 := hu_2 hr
    (ds_cons (dp_if (dt_cmp (ro_eq hu) (de_var 3) (de_var 4)) (ds_one (dp_ret (de_call h_ticks (hr.mono (by decide)) (by rfl) (da_cons (de_var 2) da_nil)))) ds_nil)
    (ds_cons (dp_set (i := 5) sc_last_tick.nd rfl (by first | exact .inl rfl | exact .inr rfl) (de_oneT hu (de_var 4) de_non))
    (ds_cons (dp_for PassesOwn.never rfl (di_seq (de_rev (de_call h_presses (hr.mono (by decide)) (by rfl) (da_cons (de_var 0) (da_cons (de_var 1) (da_cons (de_var 2) da_nil)))))) (dg_tup rfl (dgs_cons (dg_name (vs := [6, 7, 8]) sc_last_tick.nd rfl (by first | exact .inl rfl | exact .inr rfl) (by decide)) (dgs_cons (dg_name (vs := [6, 7, 8]) sc_last_tick.nd rfl (by first | exact .inl rfl | exact .inr rfl) (by decide)) (dgs_cons (dg_name (vs := [6, 7, 8]) sc_last_tick.nd rfl (by first | exact .inl rfl | exact .inr rfl) (by decide)) dgs_nil))))
    (ds_one (dp_for PassesOwn.never rfl (di_seq (de_var 8)) (dg_tup rfl (dgs_cons (dg_name (vs := [9, 10]) sc_last_tick.nd rfl (by first | exact .inl rfl | exact .inr rfl) (by decide)) (dgs_cons (dg_name (vs := [9, 10]) sc_last_tick.nd rfl (by first | exact .inl rfl | exact .inr rfl) (by decide)) dgs_nil)))
    (ds_one (dp_for PassesOwn.never rfl (di_seq (de_tup (da_cons (de_tup (da_cons (de_var 9) (da_cons (de_var 10) da_nil))) (da_cons (de_tup (da_cons (de_var 10) (da_cons (de_var 9) da_nil))) da_nil)))) (dg_tup rfl (dgs_cons (dg_name (vs := [11, 12]) sc_last_tick.nd rfl (by first | exact .inl rfl | exact .inr rfl) (by decide)) (dgs_cons (dg_name (vs := [11, 12]) sc_last_tick.nd rfl (by first | exact .inl rfl | exact .inr rfl) (by decide)) dgs_nil)))
    (ds_one (dp_if (DWx.pt (dw_and (dt_cmp (ro_in hu2) (de_var 12) (de_var 5)) (dw_and1 (dt_cmp (ro_notIn hu2) (de_var 11) (de_var 5))))) (ds_one (dp_asg (de_var 7) (dg_sub (vs := []) (de_var 5) (de_var 11) (ps_setA hu)))) ds_nil)))))))
    (ds_one (dp_ret (de_get2 hu (de_var 5) (de_var 3) de_non ⟨by rfl, by rfl, by rfl, by rfl⟩))))))) (sp_last_tick)
abbrev s_all_deeds : Stmt := top 25
theorem sc_all_deeds : FnScope ["shape", "found", "word", "place"] ["shape"] (defScope s_all_deeds) := ⟨rfl, rfl, rfl, by decide +kernel, rfl, by decide +kernel, by decide +kernel⟩
theorem has_all_deeds {f : Addr} {fd : FuncData} (T : Txt mg) (hF : Fun K "all_deeds" "all_deeds" s_all_deeds f fd) (hmg : mg "all_deeds" = some (.ref f)) (hb : Binds K fd ["shape"] [])  : Has P w K mg base "all_deeds" 1 1 F_all_deeds :=
  has_of hF sc_all_deeds rfl hmg hb (b_all_deeds) (fun cdv A outer s H E hr =>
    have hu := hr.units
    have hu1 := hu_1 hr
    have hu2 := hu_2 hr
    (ds_cons (dp_set (i := 1) sc_all_deeds.nd rfl (by first | exact .inl rfl | exact .inr rfl) (de_op ro_add (de_lc (own := [("place", 3)]) rfl sc_all_deeds.nd (di_range1 (by rfl) T.n_range (da_cons (de_ixA hu (de_var 0) de_int) da_nil)) (blkOk_by (N := ["shape", "found", "word", "place"]) (sc := defScope s_all_deeds) (by decide +kernel)) (fun _ _ _ _ _ => (dg_name (vs := [3]) sc_all_deeds.nd rfl (by first | exact .inl rfl | exact .inr rfl) (by decide))) (fun _ _ _ _ _ => dts_nil) (fun _ _ _ _ _ => (de_tup (da_cons de_str (da_cons (de_var 3) da_nil))))) (de_lc (own := [("place", 3)]) rfl sc_all_deeds.nd (di_range1 (by rfl) T.n_range (da_cons (de_ixA hu (de_var 0) de_int) da_nil)) (blkOk_by (N := ["shape", "found", "word", "place"]) (sc := defScope s_all_deeds) (by decide +kernel)) (fun _ _ _ _ _ => (dg_name (vs := [3]) sc_all_deeds.nd rfl (by first | exact .inl rfl | exact .inr rfl) (by decide))) (fun _ _ _ _ _ => dts_nil) (fun _ _ _ _ _ => (de_tup (da_cons de_str (da_cons (de_var 3) da_nil)))))))
    (ds_cons (dp_for PassesOwn.never rfl (di_seq (de_tup (da_cons de_str (da_cons de_str da_nil)))) (dg_name (vs := [2]) sc_all_deeds.nd rfl (by first | exact .inl rfl | exact .inr rfl) (by decide))
    (ds_one (dp_set (i := 1) sc_all_deeds.nd rfl (by first | exact .inl rfl | exact .inr rfl) (de_op ro_add (de_var 1) (de_lc (own := [("place", 3)]) rfl sc_all_deeds.nd (di_range1 (by rfl) T.n_range (da_cons (de_op ro_sub (de_ixA hu (de_var 0) de_int) de_int) da_nil)) (blkOk_by (N := ["shape", "found", "word", "place"]) (sc := defScope s_all_deeds) (by decide +kernel)) (fun _ _ _ _ _ => (dg_name (vs := [3]) sc_all_deeds.nd rfl (by first | exact .inl rfl | exact .inr rfl) (by decide))) (fun _ _ _ _ _ => dts_nil) (fun _ _ _ _ _ => (de_tup (da_cons (de_var 2) (da_cons (de_var 3) da_nil)))))))))
    (ds_one (dp_ret (de_var 1)))))) (sp_all_deeds)
abbrev s_later : Stmt := top 26
theorem sc_later : FnScope ["shape", "stand", "spot", "deed", "there"] ["shape", "stand", "spot", "deed"] (defScope s_later) := ⟨rfl, rfl, rfl, by decide +kernel, rfl, by decide +kernel, by decide +kernel⟩
theorem has_later {f : Addr} {fd : FuncData} (T : Txt mg) (hF : Fun K "later" "later" s_later f fd) (hmg : mg "later" = some (.ref f)) (hb : Binds K fd ["shape", "stand", "spot", "deed"] []) (h_moved : Has P w K mg base "moved" 1 2 F_moved) (h_partner : Has P w K mg base "partner" 1 2 F_partner) (h_pairs_at : Has P w K mg base "pairs_at" 3 3 F_pairs_at) : Has P w K mg base "later" 4 4 F_later :=
  has_of hF sc_later rfl hmg hb (b_later) (fun cdv A outer s H E hr =>
    have hu := hr.units
    have hu1 := hu_1 hr
    have hu2 := hu_2 hr
    (ds_cons (dp_if (dt_cmp (ro_ne hu) (de_ixA hu (de_var 3) de_int) de_str) (ds_one (dp_ret (de_lst (da_cons (de_tup (da_cons (de_call h_moved (hr.mono (by decide)) (by rfl) (da_cons (de_var 1) (da_cons (de_var 3) da_nil))) (da_cons (de_var 2) da_nil))) da_nil)))) ds_nil)
    (ds_cons (dp_set (i := 4) sc_later.nd rfl (by first | exact .inl rfl | exact .inr rfl) (de_call h_partner (hr.mono (by decide)) (by rfl) (da_cons (de_call h_pairs_at (hr.mono (by decide)) (by rfl) (da_cons (de_var 0) (da_cons (de_var 1) (da_cons (de_ixA hu (de_var 3) de_int) da_nil)))) (da_cons (de_var 2) da_nil))))
    (ds_one (dp_ret (de_op ro_add (de_lst (da_cons (de_tup (da_cons (de_var 1) (da_cons (de_var 2) da_nil))) da_nil)) (de_ifExp (dt_notN (de_var 4)) (de_lst (da_cons (de_tup (da_cons (de_var 1) (da_cons (de_var 4) da_nil))) da_nil)) (de_lst da_nil)))))))) (sp_later)
abbrev s_bring : Stmt := top 27
theorem sc_bring : FnScope ["shape", "stand", "spot", "goal", "wet", "rows", "seen", "turn", "fresh", "done", "lying", "here", "deed", "state"] ["shape", "stand", "spot", "goal", "wet"] (defScope s_bring) := ⟨rfl, rfl, rfl, by decide +kernel, rfl, by decide +kernel, by decide +kernel⟩
theorem has_bring {f : Addr} {fd : FuncData} {C : Addr} (T : Txt mg) (O : OxD P w K mg base "TooMany" C "most") (hF : Fun K "bring" "bring" s_bring f fd) (hmg : mg "bring" = some (.ref f)) (hb : ∃ ds, Vals (([12] : List Int).map V.int) ds ∧ Binds K fd ["shape", "stand", "spot", "goal", "wet"] ds) (hk : KBn K fd ["shape", "stand", "spot", "goal", "wet"] 4 ["wet"] (fun us ws => us ++ ws) (fun vs zs => vs ++ zs)) (h_all_deeds : Has P w K mg base "all_deeds" 1 1 F_all_deeds) (h_later : Has P w K mg base "later" 4 4 F_later) : HasX P w K mg base "bring" 5 4 ["wet"] [12] C [("most", .int 3)] FX_bring :=
  hasX_of (y := .int 3) hF sc_bring rfl hmg hb hk O.T.ox O.T.noN rfl t_bring b_bring (fun cdv A outer s H E hr =>
    have hu := hr.units
    have hu1 := hu_1 hr
    have hu2 := hu_2 hr
    ⟨(dt_cmp ro_gt (de_bt (rb_maxT hu rfl) (by rfl) T.n_max bt_max (da_cons (de_var 0) da_nil)) (de_gintE (by rfl) T.c_MOST)), O.pmk (hr.mono (by decide)) (by rfl) (pa_cons (pe_globI (by rfl) T.c_MOST) pa_nil), (ds_cons (dp_if (dt_cmp (ro_eq hu) (de_var 2) (de_var 3)) (ds_one (dp_ret (de_lst da_nil))) ds_nil)
    (ds_cons (dp_set (i := 5) sc_bring.nd rfl (by first | exact .inl rfl | exact .inr rfl) (de_lst (da_cons (de_tup (da_cons (de_tup da_nil) (da_cons (de_var 1) (da_cons (de_var 2) da_nil)))) da_nil)))
    (ds_cons (dp_set (i := 6) sc_bring.nd rfl (by first | exact .inl rfl | exact .inr rfl) (de_oneT hu (de_tup (da_cons (de_var 1) (da_cons (de_var 2) da_nil))) de_bl))
    (ds_cons (dp_for PassesOwn.never rfl (di_range1 (by rfl) T.n_range (da_cons (de_var 4) da_nil)) (dg_name (vs := [7]) sc_bring.nd rfl (by first | exact .inl rfl | exact .inr rfl) (by decide))
    (ds_cons (dp_set (i := 8) sc_bring.nd rfl (by first | exact .inl rfl | exact .inr rfl) (de_newL da_nil))
    (ds_cons (dp_for PassesOwn.never rfl (di_seq (de_var 5)) (dg_tup rfl (dgs_cons (dg_name (vs := [9, 10, 11]) sc_bring.nd rfl (by first | exact .inl rfl | exact .inr rfl) (by decide)) (dgs_cons (dg_name (vs := [9, 10, 11]) sc_bring.nd rfl (by first | exact .inl rfl | exact .inr rfl) (by decide)) (dgs_cons (dg_name (vs := [9, 10, 11]) sc_bring.nd rfl (by first | exact .inl rfl | exact .inr rfl) (by decide)) dgs_nil))))
    (ds_one (dp_for PassesOwn.never rfl (di_seq (de_call h_all_deeds (hr.mono (by decide)) (by rfl) (da_cons (de_var 0) da_nil))) (dg_name (vs := [12]) sc_bring.nd rfl (by first | exact .inl rfl | exact .inr rfl) (by decide))
    (ds_one (dp_for PassesOwn.never rfl (di_seq (de_call h_later (hr.mono (by decide)) (by rfl) (da_cons (de_var 0) (da_cons (de_var 10) (da_cons (de_var 11) (da_cons (de_var 12) da_nil)))))) (dg_name (vs := [13]) sc_bring.nd rfl (by first | exact .inl rfl | exact .inr rfl) (by decide))
    (ds_cons (dp_if (dt_cmp (ro_eq hu) (de_ixA hu (de_var 13) de_int) (de_var 3)) (ds_one (dp_ret (de_ty rb_list (by rfl) T.n_list bt_list (da_cons (de_op ro_add (de_var 9) (de_tup (da_cons (de_var 12) da_nil))) da_nil)))) ds_nil)
    (ds_one (dp_if (dt_cmp (ro_notIn hu2) (de_var 13) (de_var 6)) (ds_cons (dp_asg de_bl (dg_sub (vs := []) (de_var 6) (de_var 13) (ps_setA hu)))
    (ds_one (dp_expr (de_bm slot_append rfl rm_app (de_var 8) (da_cons (de_op ro_add (de_tup (da_cons (de_op ro_add (de_var 9) (de_tup (da_cons (de_var 12) da_nil))) da_nil)) (de_var 13)) da_nil))))) ds_nil))))))))
    (ds_one (dp_set (i := 5) sc_bring.nd rfl (by first | exact .inl rfl | exact .inr rfl) (de_frz (de_var 8)))))))
    (ds_one (dp_ret de_non))))))⟩) sp_bring
abbrev s_law_draw : Stmt := top 29
theorem sc_law_draw : FnScope ["_law_tape", "_law_many", "_law_prime", "_law_cell", "_law_found"] ["_law_tape", "_law_many"] (defScope s_law_draw) := ⟨rfl, rfl, rfl, by decide +kernel, rfl, by decide +kernel, by decide +kernel⟩
theorem has_law_draw {f : Addr} {fd : FuncData} (T : Txt mg) (hF : Fun K "_law_draw" "_law_draw" s_law_draw f fd) (hmg : mg "_law_draw" = some (.ref f)) (hb : Binds K fd ["_law_tape", "_law_many"] [])  : Has P w K mg base "_law_draw" 1 2 F_law_draw :=
  has_of hF sc_law_draw rfl hmg hb (b_law_draw) (fun cdv A outer s H E hr =>
    have hu := hr.units
    have hu1 := hu_1 hr
    have hu2 := hu_2 hr
    (ds_cons (dp_set (i := 2) sc_law_draw.nd rfl (by first | exact .inl rfl | exact .inr rfl) de_int)
    (ds_cons (dp_if (dt_cmp ro_lt (de_ixA hu (de_var 0) de_int) (de_var 1)) (ds_cons (dp_set (i := 3) sc_law_draw.nd rfl (by first | exact .inl rfl | exact .inr rfl) de_int)
    (ds_cons (dp_if (dt_cmp ro_gt (de_bt (rb_len) (by rfl) T.n_len bt_len (da_cons (de_ixA hu (de_var 0) de_int) da_nil)) de_int) (ds_one (dp_set (i := 3) sc_law_draw.nd rfl (by first | exact .inl rfl | exact .inr rfl) (de_ixA hu (de_ixA hu (de_var 0) de_int) (de_op ro_mod (de_ixA hu (de_var 0) de_int) (de_bt (rb_len) (by rfl) T.n_len bt_len (da_cons (de_ixA hu (de_var 0) de_int) da_nil)))))) ds_nil)
    (ds_cons (dp_if (DWx.pt (dw_or (dt_cmp ro_ge (de_ixA hu (de_var 0) de_int) (de_bt (rb_len) (by rfl) T.n_len bt_len (da_cons (de_ixA hu (de_var 0) de_int) da_nil))) (dw_or1 (dt_cmp ro_lt (de_var 3) (de_op ro_pow de_int de_int))))) (ds_cons (dp_set (i := 3) sc_law_draw.nd rfl (by first | exact .inl rfl | exact .inr rfl) (de_op ro_mod (de_op ro_add (de_var 3) (de_op ro_mul de_int (de_ixA hu (de_var 0) de_int))) (de_var 2)))
    (ds_cons (dp_set (i := 3) sc_law_draw.nd rfl (by first | exact .inl rfl | exact .inr rfl) (de_op ro_mod (de_op ro_add (de_op ro_add (de_op ro_mul (de_var 3) (de_var 3)) (de_op ro_mul de_int (de_var 3))) de_int) (de_var 2)))
    (ds_one (dp_set (i := 3) sc_law_draw.nd rfl (by first | exact .inl rfl | exact .inr rfl) (de_op ro_mod (de_op ro_add (de_op ro_mul (de_var 3) (de_var 3)) de_int) (de_var 2)))))) ds_nil)
    (ds_cons (dp_asg (de_op ro_add (de_ixA hu (de_var 0) de_int) de_int) (dg_sub (vs := []) (de_var 0) de_int (ps_setA hu)))
    (ds_one (dp_asg (de_var 3) (dg_sub (vs := []) (de_var 0) de_int (ps_setA hu)))))))) ds_nil)
    (ds_cons (dp_set (i := 4) sc_law_draw.nd rfl (by first | exact .inl rfl | exact .inr rfl) (de_op ro_mod (de_ixA hu (de_var 0) de_int) (de_var 1)))
    (ds_cons (dp_asg (de_op ro_fdiv (de_ixA hu (de_var 0) de_int) (de_var 1)) (dg_sub (vs := []) (de_var 0) de_int (ps_setA hu)))
    (ds_one (dp_ret (de_var 4)))))))) (sp_law_draw)
abbrev s_law_any_order : Stmt := top 30
theorem sc_law_any_order : FnScope ["_law_tape", "_law_many", "_law_found", "_law_k"] ["_law_tape", "_law_many"] (defScope s_law_any_order) := ⟨rfl, rfl, rfl, by decide +kernel, rfl, by decide +kernel, by decide +kernel⟩
theorem has_law_any_order {f : Addr} {fd : FuncData} (T : Txt mg) (hF : Fun K "_law_any_order" "_law_any_order" s_law_any_order f fd) (hmg : mg "_law_any_order" = some (.ref f)) (hb : Binds K fd ["_law_tape", "_law_many"] []) (h_law_draw : Has P w K mg base "_law_draw" 1 2 F_law_draw) : Has P w K mg base "_law_any_order" 2 2 F_law_any_order :=
  has_of hF sc_law_any_order rfl hmg hb (b_law_any_order) (fun cdv A outer s H E hr =>
    have hu := hr.units
    have hu1 := hu_1 hr
    have hu2 := hu_2 hr
    (ds_cons (dp_set (i := 2) sc_law_any_order.nd rfl (by first | exact .inl rfl | exact .inr rfl) (de_newL da_nil))
    (ds_cons (dp_for PassesOwn.never rfl (di_range1 (by rfl) T.n_range (da_cons (de_var 1) da_nil)) (dg_name (vs := [3]) sc_law_any_order.nd rfl (by first | exact .inl rfl | exact .inr rfl) (by decide))
    (ds_one (dp_expr (de_bm slot_insert rfl rm_ins (de_var 2) (da_cons (de_call h_law_draw (hr.mono (by decide)) (by rfl) (da_cons (de_var 0) (da_cons (de_op ro_add (de_var 3) de_int) da_nil))) (da_cons (de_var 3) da_nil))))))
    (ds_one (dp_ret (de_ty rb_tuple (by rfl) T.n_tuple bt_tuple (da_cons (de_var 2) da_nil))))))) (sp_law_any_order)
abbrev s_law_shape : Stmt := top 31
theorem sc_law_shape : FnScope ["_law_tape", "_law_leaves", "_law_cells"] ["_law_tape", "_law_leaves", "_law_cells"] (defScope s_law_shape) := ⟨rfl, rfl, rfl, by decide +kernel, rfl, by decide +kernel, by decide +kernel⟩
theorem has_law_shape {f : Addr} {fd : FuncData} (T : Txt mg) (hF : Fun K "_law_shape" "_law_shape" s_law_shape f fd) (hmg : mg "_law_shape" = some (.ref f)) (hb : Binds K fd ["_law_tape", "_law_leaves", "_law_cells"] []) (h_law_draw : Has P w K mg base "_law_draw" 1 2 F_law_draw) : Has P w K mg base "_law_shape" 2 3 F_law_shape :=
  has_of hF sc_law_shape rfl hmg hb (b_law_shape) (fun cdv A outer s H E hr =>
    have hu := hr.units
    have hu1 := hu_1 hr
    have hu2 := hu_2 hr
    (ds_one (dp_ret (de_tup (da_cons (de_op ro_add de_int (de_call h_law_draw (hr.mono (by decide)) (by rfl) (da_cons (de_var 0) (da_cons (de_var 1) da_nil)))) (da_cons (de_op ro_add de_int (de_call h_law_draw (hr.mono (by decide)) (by rfl) (da_cons (de_var 0) (da_cons (de_var 2) da_nil)))) da_nil)))))) (sp_law_shape)
abbrev s_law_spot : Stmt := top 32
theorem sc_law_spot : FnScope ["_law_tape", "_law_shape_here"] ["_law_tape", "_law_shape_here"] (defScope s_law_spot) := ⟨rfl, rfl, rfl, by decide +kernel, rfl, by decide +kernel, by decide +kernel⟩
theorem has_law_spot {f : Addr} {fd : FuncData} (T : Txt mg) (hF : Fun K "_law_spot" "_law_spot" s_law_spot f fd) (hmg : mg "_law_spot" = some (.ref f)) (hb : Binds K fd ["_law_tape", "_law_shape_here"] []) (h_law_draw : Has P w K mg base "_law_draw" 1 2 F_law_draw) : Has P w K mg base "_law_spot" 2 2 F_law_spot :=
  has_of hF sc_law_spot rfl hmg hb (b_law_spot) (fun cdv A outer s H E hr =>
    have hu := hr.units
    have hu1 := hu_1 hr
    have hu2 := hu_2 hr
    (ds_one (dp_ret (de_tup (da_cons (de_call h_law_draw (hr.mono (by decide)) (by rfl) (da_cons (de_var 0) (da_cons (de_ixA hu (de_var 1) de_int) da_nil))) (da_cons (de_call h_law_draw (hr.mono (by decide)) (by rfl) (da_cons (de_var 0) (da_cons de_int da_nil))) (da_cons (de_call h_law_draw (hr.mono (by decide)) (by rfl) (da_cons (de_var 0) (da_cons (de_ixA hu (de_var 1) de_int) da_nil))) da_nil))))))) (sp_law_spot)
abbrev s_law_stand : Stmt := top 33
theorem sc_law_stand : FnScope ["_law_tape", "_law_shape_here", "_law_leaf"] ["_law_tape", "_law_shape_here"] (defScope s_law_stand) := ⟨rfl, rfl, rfl, by decide +kernel, rfl, by decide +kernel, by decide +kernel⟩
theorem has_law_stand {f : Addr} {fd : FuncData} (T : Txt mg) (hF : Fun K "_law_stand" "_law_stand" s_law_stand f fd) (hmg : mg "_law_stand" = some (.ref f)) (hb : Binds K fd ["_law_tape", "_law_shape_here"] []) (h_law_draw : Has P w K mg base "_law_draw" 1 2 F_law_draw) (h_law_any_order : Has P w K mg base "_law_any_order" 2 2 F_law_any_order) : Has P w K mg base "_law_stand" 3 2 F_law_stand :=
  has_of hF sc_law_stand rfl hmg hb (b_law_stand) (fun cdv A outer s H E hr =>
    have hu := hr.units
    have hu1 := hu_1 hr
    have hu2 := hu_2 hr
    (ds_cons (dp_if (dt_cmp (ro_eq hu) (de_call h_law_draw (hr.mono (by decide)) (by rfl) (da_cons (de_var 0) (da_cons de_int da_nil))) de_int) (ds_one (dp_ret (de_ty rb_tuple (by rfl) T.n_tuple bt_tuple (da_cons (de_lc (own := [("_law_leaf", 2)]) rfl sc_law_stand.nd (di_range1 (by rfl) T.n_range (da_cons (de_ixA hu (de_var 1) de_int) da_nil)) (blkOk_by (N := ["_law_tape", "_law_shape_here", "_law_leaf"]) (sc := defScope s_law_stand) (by decide +kernel)) (fun _ _ _ _ _ => (dg_name (vs := [2]) sc_law_stand.nd rfl (by first | exact .inl rfl | exact .inr rfl) (by decide))) (fun _ _ _ _ _ => dts_nil) (fun _ _ _ _ _ => (de_tup (da_cons (de_var 2) (da_cons de_int (da_cons de_int da_nil)))))) da_nil)))) ds_nil)
    (ds_one (dp_ret (de_ty rb_tuple (by rfl) T.n_tuple bt_tuple (da_cons (de_lc (own := [("_law_leaf", 2)]) rfl sc_law_stand.nd (di_seq (de_call h_law_any_order (hr.mono (by decide)) (by rfl) (da_cons (de_var 0) (da_cons (de_ixA hu (de_var 1) de_int) da_nil)))) (blkOk_by (N := ["_law_tape", "_law_shape_here", "_law_leaf"]) (sc := defScope s_law_stand) (by decide +kernel)) (fun _ _ _ _ _ => (dg_name (vs := [2]) sc_law_stand.nd rfl (by first | exact .inl rfl | exact .inr rfl) (by decide))) (fun _ _ _ _ _ => dts_nil) (fun _ _ _ _ _ => (de_tup (da_cons (de_var 2) (da_cons (de_call h_law_draw (hr.mono (by decide)) (by rfl) (da_cons (de_var 0) (da_cons de_int da_nil))) (da_cons (de_call h_law_draw (hr.mono (by decide)) (by rfl) (da_cons (de_var 0) (da_cons de_int da_nil))) da_nil)))))) da_nil)))))) (sp_law_stand)
abbrev s_law_a_deed : Stmt := top 34
theorem sc_law_a_deed : FnScope ["_law_tape", "_law_shape_here", "_law_course"] ["_law_tape", "_law_shape_here"] (defScope s_law_a_deed) := ⟨rfl, rfl, rfl, by decide +kernel, rfl, by decide +kernel, by decide +kernel⟩
theorem has_law_a_deed {f : Addr} {fd : FuncData} (T : Txt mg) (hF : Fun K "_law_a_deed" "_law_a_deed" s_law_a_deed f fd) (hmg : mg "_law_a_deed" = some (.ref f)) (hb : Binds K fd ["_law_tape", "_law_shape_here"] []) (h_law_draw : Has P w K mg base "_law_draw" 1 2 F_law_draw) : Has P w K mg base "_law_a_deed" 2 2 F_law_a_deed :=
  has_of hF sc_law_a_deed rfl hmg hb (b_law_a_deed) (fun cdv A outer s H E hr =>
    have hu := hr.units
    have hu1 := hu_1 hr
    have hu2 := hu_2 hr
    (ds_cons (dp_set (i := 2) sc_law_a_deed.nd rfl (by first | exact .inl rfl | exact .inr rfl) (de_call h_law_draw (hr.mono (by decide)) (by rfl) (da_cons (de_var 0) (da_cons de_int da_nil))))
    (ds_cons (dp_if (DWx.pt (dw_and (dt_cmp ro_lt (de_var 2) de_int) (dw_and1 (dt_cmp ro_gt (de_ixA hu (de_var 1) de_int) de_int)))) (ds_one (dp_ret (de_tup (da_cons (de_ixA hu (de_lst (da_cons de_str (da_cons de_str (da_cons de_str (da_cons de_str (da_cons de_str (da_cons de_str da_nil))))))) (de_var 2)) (da_cons (de_call h_law_draw (hr.mono (by decide)) (by rfl) (da_cons (de_var 0) (da_cons (de_op ro_sub (de_ixA hu (de_var 1) de_int) de_int) da_nil))) da_nil))))) ds_nil)
    (ds_cons (dp_if (dt_cmp ro_lt (de_var 2) de_int) (ds_one (dp_ret (de_tup (da_cons (de_ixA hu (de_lst (da_cons de_str (da_cons de_str da_nil))) (de_op ro_mod (de_var 2) de_int)) (da_cons (de_call h_law_draw (hr.mono (by decide)) (by rfl) (da_cons (de_var 0) (da_cons (de_ixA hu (de_var 1) de_int) da_nil))) da_nil))))) ds_nil)
    (ds_one (dp_ret (de_tup (da_cons de_str (da_cons (de_ixA hu (de_lst (da_cons de_int (da_cons de_int (da_cons (de_op ro_add de_int (de_call h_law_draw (hr.mono (by decide)) (by rfl) (da_cons (de_var 0) (da_cons de_int da_nil)))) da_nil)))) (de_call h_law_draw (hr.mono (by decide)) (by rfl) (da_cons (de_var 0) (da_cons de_int da_nil)))) da_nil))))))))) (sp_law_a_deed)
abbrev s_law_row : Stmt := top 35
theorem sc_law_row : FnScope ["_law_tape", "_law_shape_here", "_law_most", "_law_k"] ["_law_tape", "_law_shape_here", "_law_most"] (defScope s_law_row) := ⟨rfl, rfl, rfl, by decide +kernel, rfl, by decide +kernel, by decide +kernel⟩
theorem has_law_row {f : Addr} {fd : FuncData} (T : Txt mg) (hF : Fun K "_law_row" "_law_row" s_law_row f fd) (hmg : mg "_law_row" = some (.ref f)) (hb : Binds K fd ["_law_tape", "_law_shape_here", "_law_most"] []) (h_law_draw : Has P w K mg base "_law_draw" 1 2 F_law_draw) (h_law_a_deed : Has P w K mg base "_law_a_deed" 2 2 F_law_a_deed) : Has P w K mg base "_law_row" 3 3 F_law_row :=
  has_of hF sc_law_row rfl hmg hb (b_law_row) (fun cdv A outer s H E hr =>
    have hu := hr.units
    have hu1 := hu_1 hr
    have hu2 := hu_2 hr
    (ds_one (dp_ret (de_lc (own := [("_law_k", 3)]) rfl sc_law_row.nd (di_range1 (by rfl) T.n_range (da_cons (de_call h_law_draw (hr.mono (by decide)) (by rfl) (da_cons (de_var 0) (da_cons (de_op ro_add (de_var 2) de_int) da_nil))) da_nil)) (blkOk_by (N := ["_law_tape", "_law_shape_here", "_law_most", "_law_k"]) (sc := defScope s_law_row) (by decide +kernel)) (fun _ _ _ _ _ => (dg_name (vs := [3]) sc_law_row.nd rfl (by first | exact .inl rfl | exact .inr rfl) (by decide))) (fun _ _ _ _ _ => dts_nil) (fun _ _ _ _ _ => (de_call h_law_a_deed (hr.mono (by decide)) (by rfl) (da_cons (de_var 0) (da_cons (de_var 1) da_nil)))))))) (sp_law_row)
abbrev s_law_drop : Stmt := top 36
theorem sc_law_drop : FnScope ["_law_tape", "_law_shape_here", "_law_most"] ["_law_tape", "_law_shape_here", "_law_most"] (defScope s_law_drop) := ⟨rfl, rfl, rfl, by decide +kernel, rfl, by decide +kernel, by decide +kernel⟩
theorem has_law_drop {f : Addr} {fd : FuncData} (T : Txt mg) (hF : Fun K "_law_drop" "_law_drop" s_law_drop f fd) (hmg : mg "_law_drop" = some (.ref f)) (hb : Binds K fd ["_law_tape", "_law_shape_here", "_law_most"] []) (h_law_draw : Has P w K mg base "_law_draw" 1 2 F_law_draw) (h_law_spot : Has P w K mg base "_law_spot" 2 2 F_law_spot) : Has P w K mg base "_law_drop" 3 3 F_law_drop :=
  has_of hF sc_law_drop rfl hmg hb (b_law_drop) (fun cdv A outer s H E hr =>
    have hu := hr.units
    have hu1 := hu_1 hr
    have hu2 := hu_2 hr
    (ds_one (dp_ret (de_tup (da_cons (de_call h_law_draw (hr.mono (by decide)) (by rfl) (da_cons (de_var 0) (da_cons (de_op ro_add (de_var 2) de_int) da_nil))) (da_cons (de_call h_law_spot (hr.mono (by decide)) (by rfl) (da_cons (de_var 0) (da_cons (de_var 1) da_nil))) (da_cons (de_ixA hu (de_lst (da_cons de_int (da_cons de_int (da_cons de_int (da_cons (de_op ro_add de_int (de_call h_law_draw (hr.mono (by decide)) (by rfl) (da_cons (de_var 0) (da_cons de_int da_nil)))) da_nil))))) (de_call h_law_draw (hr.mono (by decide)) (by rfl) (da_cons (de_var 0) (da_cons de_int da_nil)))) da_nil))))))) (sp_law_drop)
abbrev s_law_named : Stmt := top 37
theorem sc_law_named : FnScope ["_law_names", "_law_spot_here", "_law_leaf", "_law_side", "_law_cell", "_law_number", "_law_turned", "_law_wide"] ["_law_names", "_law_spot_here"] (defScope s_law_named) := ⟨rfl, rfl, rfl, by decide +kernel, rfl, by decide +kernel, by decide +kernel⟩
theorem has_law_named {f : Addr} {fd : FuncData} (T : Txt mg) (hF : Fun K "_law_named" "_law_named" s_law_named f fd) (hmg : mg "_law_named" = some (.ref f)) (hb : Binds K fd ["_law_names", "_law_spot_here"] [])  : Has P w K mg base "_law_named" 1 2 F_law_named :=
  has_of hF sc_law_named rfl hmg hb (b_law_named) (fun cdv A outer s H E hr =>
    have hu := hr.units
    have hu1 := hu_1 hr
    have hu2 := hu_2 hr
    (ds_cons (dp_asg (de_var 1) (dg_tup rfl (dgs_cons (dg_name (vs := [2, 3, 4]) sc_law_named.nd rfl (by first | exact .inl rfl | exact .inr rfl) (by decide)) (dgs_cons (dg_name (vs := [2, 3, 4]) sc_law_named.nd rfl (by first | exact .inl rfl | exact .inr rfl) (by decide)) (dgs_cons (dg_name (vs := [2, 3, 4]) sc_law_named.nd rfl (by first | exact .inl rfl | exact .inr rfl) (by decide)) dgs_nil)))))
    (ds_cons (dp_par3 (i := 5) (j := 6) (l := 7) rfl sc_law_named.nd rfl rfl rfl (by decide) (by decide) (by decide) rfl rfl rfl (da_cons (de_ixA hu (de_ixA hu (de_var 0) de_int) (de_var 2)) (da_cons (de_ixA hu (de_var 0) de_int) (da_cons (de_ixA hu (de_var 0) de_int) da_nil))) (by rfl))
    (ds_one (dp_ret (de_tup (da_cons (de_var 5) (da_cons (de_ifExp (dt_val (de_var 6)) (de_op ro_sub de_int (de_var 3)) (de_var 3)) (da_cons (de_ifExp (dt_val (de_ixA hu (de_var 0) de_int)) (de_op ro_sub (de_op ro_sub (de_var 7) de_int) (de_var 4)) (de_var 4)) da_nil))))))))) (sp_law_named)
abbrev s_law_lying : Stmt := top 38
theorem sc_law_lying : FnScope ["_law_names", "_law_stand_here", "_law_found", "_law_leaf", "_law_over", "_law_about"] ["_law_names", "_law_stand_here"] (defScope s_law_lying) := ⟨rfl, rfl, rfl, by decide +kernel, rfl, by decide +kernel, by decide +kernel⟩
theorem has_law_lying {f : Addr} {fd : FuncData} (T : Txt mg) (hF : Fun K "_law_lying" "_law_lying" s_law_lying f fd) (hmg : mg "_law_lying" = some (.ref f)) (hb : Binds K fd ["_law_names", "_law_stand_here"] [])  : Has P w K mg base "_law_lying" 1 2 F_law_lying :=
  has_of hF sc_law_lying rfl hmg hb (b_law_lying) (fun cdv A outer s H E hr =>
    have hu := hr.units
    have hu1 := hu_1 hr
    have hu2 := hu_2 hr
    (ds_cons (dp_set (i := 2) sc_law_lying.nd rfl (by first | exact .inl rfl | exact .inr rfl) (de_newL da_nil))
    (ds_cons (dp_for PassesOwn.never rfl (di_seq (de_var 1)) (dg_tup rfl (dgs_cons (dg_name (vs := [3, 4, 5]) sc_law_lying.nd rfl (by first | exact .inl rfl | exact .inr rfl) (by decide)) (dgs_cons (dg_name (vs := [3, 4, 5]) sc_law_lying.nd rfl (by first | exact .inl rfl | exact .inr rfl) (by decide)) (dgs_cons (dg_name (vs := [3, 4, 5]) sc_law_lying.nd rfl (by first | exact .inl rfl | exact .inr rfl) (by decide)) dgs_nil))))
    (ds_one (dp_expr (de_bm slot_append rfl rm_app (de_var 2) (da_cons (de_tup (da_cons (de_ixA hu (de_ixA hu (de_var 0) de_int) (de_var 3)) (da_cons (de_ifExp (dt_val (de_ixA hu (de_var 0) de_int)) (de_op ro_sub de_int (de_var 4)) (de_var 4)) (da_cons (de_ifExp (dt_val (de_ixA hu (de_var 0) de_int)) (de_op ro_sub de_int (de_var 5)) (de_var 5)) da_nil)))) da_nil)))))
    (ds_one (dp_ret (de_ty rb_tuple (by rfl) T.n_tuple bt_tuple (da_cons (de_var 2) da_nil))))))) (sp_law_lying)
abbrev s_law_mirrored : Stmt := top 39
theorem sc_law_mirrored : FnScope ["_law_shape_here", "_law_stand_here", "_law_leaf", "_law_over", "_law_about"] ["_law_shape_here", "_law_stand_here"] (defScope s_law_mirrored) := ⟨rfl, rfl, rfl, by decide +kernel, rfl, by decide +kernel, by decide +kernel⟩
theorem has_law_mirrored {f : Addr} {fd : FuncData} (T : Txt mg) (hF : Fun K "_law_mirrored" "_law_mirrored" s_law_mirrored f fd) (hmg : mg "_law_mirrored" = some (.ref f)) (hb : Binds K fd ["_law_shape_here", "_law_stand_here"] [])  : Has P w K mg base "_law_mirrored" 1 2 F_law_mirrored :=
  has_of hF sc_law_mirrored rfl hmg hb (b_law_mirrored) (fun cdv A outer s H E hr =>
    have hu := hr.units
    have hu1 := hu_1 hr
    have hu2 := hu_2 hr
    (ds_one (dp_ret (de_ty rb_tuple (by rfl) T.n_tuple bt_tuple (da_cons (de_lc (own := [("_law_leaf", 2), ("_law_over", 3), ("_law_about", 4)]) rfl sc_law_mirrored.nd (di_seq (de_rev (de_var 1))) (blkOk_by (N := ["_law_shape_here", "_law_stand_here", "_law_leaf", "_law_over", "_law_about"]) (sc := defScope s_law_mirrored) (by decide +kernel)) (fun _ _ _ _ _ => (dg_tup rfl (dgs_cons (dg_name (vs := [2, 3, 4]) sc_law_mirrored.nd rfl (by first | exact .inl rfl | exact .inr rfl) (by decide)) (dgs_cons (dg_name (vs := [2, 3, 4]) sc_law_mirrored.nd rfl (by first | exact .inl rfl | exact .inr rfl) (by decide)) (dgs_cons (dg_name (vs := [2, 3, 4]) sc_law_mirrored.nd rfl (by first | exact .inl rfl | exact .inr rfl) (by decide)) dgs_nil))))) (fun _ _ _ _ _ => dts_nil) (fun _ _ _ _ _ => (de_tup (da_cons (de_var 2) (da_cons (de_op ro_sub de_int (de_var 3)) (da_cons (de_var 4) da_nil)))))) da_nil))))) (sp_law_mirrored)
abbrev s_law_mirrored_row : Stmt := top 40
theorem sc_law_mirrored_row : FnScope ["_law_shape_here", "_law_row_here", "_law_found", "_law_word", "_law_at", "_law_last"] ["_law_shape_here", "_law_row_here"] (defScope s_law_mirrored_row) := ⟨rfl, rfl, rfl, by decide +kernel, rfl, by decide +kernel, by decide +kernel⟩
theorem has_law_mirrored_row {f : Addr} {fd : FuncData} (T : Txt mg) (hF : Fun K "_law_mirrored_row" "_law_mirrored_row" s_law_mirrored_row f fd) (hmg : mg "_law_mirrored_row" = some (.ref f)) (hb : Binds K fd ["_law_shape_here", "_law_row_here"] [])  : Has P w K mg base "_law_mirrored_row" 1 2 F_law_mirrored_row :=
  has_of hF sc_law_mirrored_row rfl hmg hb (b_law_mirrored_row) (fun cdv A outer s H E hr =>
    have hu := hr.units
    have hu1 := hu_1 hr
    have hu2 := hu_2 hr
    (ds_cons (dp_set (i := 2) sc_law_mirrored_row.nd rfl (by first | exact .inl rfl | exact .inr rfl) (de_newL da_nil))
    (ds_cons (dp_for PassesOwn.never rfl (di_seq (de_var 1)) (dg_tup rfl (dgs_cons (dg_name (vs := [3, 4]) sc_law_mirrored_row.nd rfl (by first | exact .inl rfl | exact .inr rfl) (by decide)) (dgs_cons (dg_name (vs := [3, 4]) sc_law_mirrored_row.nd rfl (by first | exact .inl rfl | exact .inr rfl) (by decide)) dgs_nil)))
    (ds_cons (dp_set (i := 5) sc_law_mirrored_row.nd rfl (by first | exact .inl rfl | exact .inr rfl) (de_frz (de_disp (.cons de_str (de_op ro_sub (de_ixA hu (de_var 0) de_int) de_int) (.cons de_str (de_op ro_sub (de_ixA hu (de_var 0) de_int) de_int) (.cons de_str (de_op ro_sub (de_ixA hu (de_var 0) de_int) de_int) (.cons de_str (de_op ro_sub (de_ixA hu (de_var 0) de_int) de_int) DPP.nil)))) (by rfl) (by rfl) (by decide) (by decide))))
    (ds_one (dp_expr (de_bm slot_append rfl rm_app (de_var 2) (da_cons (de_tup (da_cons (de_var 3) (da_cons (de_ifExp (dt_cmp (ro_eq hu) (de_var 3) de_str) (de_var 4) (de_op ro_sub (de_ixA hu (de_var 5) (de_var 3)) (de_var 4))) da_nil))) da_nil))))))
    (ds_one (dp_ret (de_frz (de_var 2))))))) (sp_law_mirrored_row)
abbrev s_law : Stmt := top 41
theorem sc_law : FnScope ["_law_script", "_law_tape", "_law_turn", "_law_shape_here", "_law_stand_here", "_law_row_here", "_law_drops", "_law_told", "_law_names", "_law_other", "_law_found", "_law_mirrored_here", "_law_back", "_law_round_so", "_law_spot_here", "_law_goal", "_law_first", "_law_ends", "_law_one", "_law_small", "_law_lying_here", "_law_few", "_law_more", "_law_k", "_law_drop_here", "_law_mark", "_law_leaf", "_law_over", "_law_about"] ["_law_script"] (defScope s_law) := ⟨rfl, rfl, rfl, by decide +kernel, rfl, by decide +kernel, by decide +kernel⟩
theorem dps_law {f : Addr} {cdv : Value} {A : Around} {outer : List Env} {s : Shared} {H : Hp} {E : XK} (T : Txt mg) {C : Addr} (h_law_shape : Has P w K mg base "_law_shape" 2 3 F_law_shape) (h_law_stand : Has P w K mg base "_law_stand" 3 2 F_law_stand) (h_law_row : Has P w K mg base "_law_row" 3 3 F_law_row) (h_law_draw : Has P w K mg base "_law_draw" 1 2 F_law_draw) (h_law_drop : Has P w K mg base "_law_drop" 3 3 F_law_drop) (h_ticks : Has P w K mg base "ticks" 2 1 F_ticks) (h_marks : Has P w K mg base "marks" 6 4 F_marks) (h_law_any_order : Has P w K mg base "_law_any_order" 2 2 F_law_any_order) (h_law_named : Has P w K mg base "_law_named" 1 2 F_law_named) (h_law_lying : Has P w K mg base "_law_lying" 1 2 F_law_lying) (h_law_mirrored : Has P w K mg base "_law_mirrored" 1 2 F_law_mirrored) (h_law_mirrored_row : Has P w K mg base "_law_mirrored_row" 1 2 F_law_mirrored_row) (h_law_spot : Has P w K mg base "_law_spot" 2 2 F_law_spot) (h_last_tick : Has P w K mg base "last_tick" 5 5 F_last_tick) (h_road : Has P w K mg base "road" 7 5 F_road) (h_bring : HasX P w K mg base "bring" 5 4 ["wet"] [12] C [("most", .int 3)] FX_bring) (hr : Room 7 (A.deeper (envOfC "law" (defScope s_law) s.heap.objs.size f cdv))) : DPs (cxOf CX0 P w K mg base ["_law_script", "_law_tape", "_law_turn", "_law_shape_here", "_law_stand_here", "_law_row_here", "_law_drops", "_law_told", "_law_names", "_law_other", "_law_found", "_law_mirrored_here", "_law_back", "_law_round_so", "_law_spot_here", "_law_goal", "_law_first", "_law_ends", "_law_one", "_law_small", "_law_lying_here", "_law_few", "_law_more", "_law_k", "_law_drop_here", "_law_mark", "_law_leaf", "_law_over", "_law_about"] "law" (defScope s_law) f cdv A outer s H E).nox ((defBody s_law).drop 1) (b_law) :=
    have hu := hr.units
    have hu1 := hu_1 hr
    have hu2 := hu_2 hr
    (ds_cons (dp_for PassesOwn.never rfl (di_range1 (by rfl) T.n_range (da_cons de_int da_nil)) (dg_name (vs := [2]) sc_law.nd rfl (by first | exact .inl rfl | exact .inr rfl) (by decide))
    (ds_cons (dp_set (i := 3) sc_law.nd rfl (by first | exact .inl rfl | exact .inr rfl) (de_call h_law_shape (hr.mono (by decide)) (by rfl) (da_cons (de_var 1) (da_cons de_int (da_cons de_int da_nil)))))
    (ds_cons (dp_asg (de_tup (da_cons (de_call h_law_stand (hr.mono (by decide)) (by rfl) (da_cons (de_var 1) (da_cons (de_var 3) da_nil))) (da_cons (de_call h_law_row (hr.mono (by decide)) (by rfl) (da_cons (de_var 1) (da_cons (de_var 3) (da_cons de_int da_nil)))) da_nil))) (dg_tup rfl (dgs_cons (dg_name (vs := [4, 5]) sc_law.nd rfl (by first | exact .inl rfl | exact .inr rfl) (by decide)) (dgs_cons (dg_name (vs := [4, 5]) sc_law.nd rfl (by first | exact .inl rfl | exact .inr rfl) (by decide)) dgs_nil))))
    (ds_cons (dp_setLc (i := 6) (own := [("_law_k", 23)]) rfl sc_law.nd rfl rfl (sw_true rfl rfl rfl (by decide +kernel)) (di_range1 (by rfl) T.n_range (da_cons (de_call h_law_draw (hr.mono (by decide)) (by rfl) (da_cons (de_var 1) (da_cons de_int da_nil))) da_nil)) (blkOk_by (N := ["_law_script", "_law_tape", "_law_turn", "_law_shape_here", "_law_stand_here", "_law_row_here", "_law_drops", "_law_told", "_law_names", "_law_other", "_law_found", "_law_mirrored_here", "_law_back", "_law_round_so", "_law_spot_here", "_law_goal", "_law_first", "_law_ends", "_law_one", "_law_small", "_law_lying_here", "_law_few", "_law_more", "_law_k", "_law_drop_here", "_law_mark", "_law_leaf", "_law_over", "_law_about"]) (sc := defScope s_law) (by decide +kernel)) (fun _ _ _ _ _ => (dg_name (vs := [23]) sc_law.nd rfl (by first | exact .inl rfl | exact .inr rfl) (by decide))) (fun _ _ _ _ _ => dts_nil) (fun _ _ _ _ _ => (de_call h_law_drop (hr.mono (by decide)) (by rfl) (da_cons (de_var 1) (da_cons (de_var 3) (da_cons (de_call h_ticks (hr.mono (by decide)) (by rfl) (da_cons (de_var 5) da_nil)) da_nil))))))
    (ds_cons (dp_set (i := 7) sc_law.nd rfl (by first | exact .inl rfl | exact .inr rfl) (de_call h_marks (hr.mono (by decide)) (by rfl) (da_cons (de_var 3) (da_cons (de_var 4) (da_cons (de_var 5) (da_cons (de_var 6) da_nil))))))
    (ds_cons (dp_set (i := 8) sc_law.nd rfl (by first | exact .inl rfl | exact .inr rfl) (de_tup (da_cons (de_call h_law_any_order (hr.mono (by decide)) (by rfl) (da_cons (de_var 1) (da_cons (de_ixA hu (de_var 3) de_int) da_nil))) (da_cons (de_cmp (ro_eq hu) (de_call h_law_draw (hr.mono (by decide)) (by rfl) (da_cons (de_var 1) (da_cons de_int da_nil))) de_int) (da_cons (de_ixA hu (de_var 3) de_int) (da_cons (de_cmp (ro_eq hu) (de_call h_law_draw (hr.mono (by decide)) (by rfl) (da_cons (de_var 1) (da_cons de_int da_nil))) de_int) da_nil))))))
    (ds_cons (dp_setLc (i := 9) (own := [("_law_drop_here", 24)]) rfl sc_law.nd rfl rfl (sw_true rfl rfl rfl (by decide +kernel)) (di_seq (de_var 6)) (blkOk_by (N := ["_law_script", "_law_tape", "_law_turn", "_law_shape_here", "_law_stand_here", "_law_row_here", "_law_drops", "_law_told", "_law_names", "_law_other", "_law_found", "_law_mirrored_here", "_law_back", "_law_round_so", "_law_spot_here", "_law_goal", "_law_first", "_law_ends", "_law_one", "_law_small", "_law_lying_here", "_law_few", "_law_more", "_law_k", "_law_drop_here", "_law_mark", "_law_leaf", "_law_over", "_law_about"]) (sc := defScope s_law) (by decide +kernel)) (fun _ _ _ _ _ => (dg_name (vs := [24]) sc_law.nd rfl (by first | exact .inl rfl | exact .inr rfl) (by decide))) (fun _ _ _ _ _ => dts_nil) (fun _ _ _ _ _ => (de_tup (da_cons (de_ixA hu (de_var 24) de_int) (da_cons (de_call h_law_named (hr.mono (by decide)) (by rfl) (da_cons (de_var 8) (da_cons (de_ixA hu (de_var 24) de_int) da_nil))) (da_cons (de_ixA hu (de_var 24) de_int) da_nil))))))
    (ds_cons (dp_set (i := 10) sc_law.nd rfl (by first | exact .inl rfl | exact .inr rfl) (de_call h_marks (hr.mono (by decide)) (by rfl) (da_cons (de_var 3) (da_cons (de_call h_law_lying (hr.mono (by decide)) (by rfl) (da_cons (de_var 8) (da_cons (de_var 4) da_nil))) (da_cons (de_var 5) (da_cons (de_var 9) da_nil))))))
    (ds_cons (dp_if (dt_cmp (ro_ne hu) (de_var 10) (de_bt (rb_sortedA hu rfl) (by rfl) T.n_sorted bt_sorted (da_cons (de_lc (own := [("_law_mark", 25)]) rfl sc_law.nd (di_seq (de_var 7)) (blkOk_by (N := ["_law_script", "_law_tape", "_law_turn", "_law_shape_here", "_law_stand_here", "_law_row_here", "_law_drops", "_law_told", "_law_names", "_law_other", "_law_found", "_law_mirrored_here", "_law_back", "_law_round_so", "_law_spot_here", "_law_goal", "_law_first", "_law_ends", "_law_one", "_law_small", "_law_lying_here", "_law_few", "_law_more", "_law_k", "_law_drop_here", "_law_mark", "_law_leaf", "_law_over", "_law_about"]) (sc := defScope s_law) (by decide +kernel)) (fun _ _ _ _ _ => (dg_name (vs := [25]) sc_law.nd rfl (by first | exact .inl rfl | exact .inr rfl) (by decide))) (fun _ _ _ _ _ => dts_nil) (fun _ _ _ _ _ => (de_op ro_add (de_tup (da_cons (de_call h_law_named (hr.mono (by decide)) (by rfl) (da_cons (de_var 8) (da_cons (de_ixA hu (de_var 25) de_int) da_nil))) da_nil)) (de_sl (de_var 25) (do_some de_int) do_no)))) da_nil))) (ds_one (dp_ret de_bl)) ds_nil)
    (ds_cons (dp_par (i := 11) (j := 12) rfl sc_law.nd rfl rfl (by decide) rfl rfl (da_cons (de_call h_law_mirrored (hr.mono (by decide)) (by rfl) (da_cons (de_var 3) (da_cons (de_var 4) da_nil))) (da_cons (de_call h_law_mirrored_row (hr.mono (by decide)) (by rfl) (da_cons (de_var 3) (da_cons (de_var 5) da_nil))) da_nil)) (by rfl))
    (ds_cons (dp_set (i := 13) sc_law.nd rfl (by first | exact .inl rfl | exact .inr rfl) (de_ty rb_tuple (by rfl) T.n_tuple bt_tuple (da_cons (de_lc (own := [("_law_leaf", 26), ("_law_over", 27), ("_law_about", 28)]) rfl sc_law.nd (di_seq (de_var 4)) (blkOk_by (N := ["_law_script", "_law_tape", "_law_turn", "_law_shape_here", "_law_stand_here", "_law_row_here", "_law_drops", "_law_told", "_law_names", "_law_other", "_law_found", "_law_mirrored_here", "_law_back", "_law_round_so", "_law_spot_here", "_law_goal", "_law_first", "_law_ends", "_law_one", "_law_small", "_law_lying_here", "_law_few", "_law_more", "_law_k", "_law_drop_here", "_law_mark", "_law_leaf", "_law_over", "_law_about"]) (sc := defScope s_law) (by decide +kernel)) (fun _ _ _ _ _ => (dg_tup rfl (dgs_cons (dg_name (vs := [26, 27, 28]) sc_law.nd rfl (by first | exact .inl rfl | exact .inr rfl) (by decide)) (dgs_cons (dg_name (vs := [26, 27, 28]) sc_law.nd rfl (by first | exact .inl rfl | exact .inr rfl) (by decide)) (dgs_cons (dg_name (vs := [26, 27, 28]) sc_law.nd rfl (by first | exact .inl rfl | exact .inr rfl) (by decide)) dgs_nil))))) (fun _ _ _ _ _ => dts_nil) (fun _ _ _ _ _ => (de_tup (da_cons (de_var 26) (da_cons (de_var 27) (da_cons (de_op ro_sub de_int (de_var 28)) da_nil)))))) da_nil)))
    (ds_cons (dp_if (DWx.pt (dw_or (dt_cmp (ro_ne hu) (de_call h_marks (hr.mono (by decide)) (by rfl) (da_cons (de_var 3) (da_cons (de_var 11) (da_cons (de_var 12) (da_cons (de_var 6) da_nil))))) (de_var 7)) (dw_or1 (dt_cmp (ro_ne hu) (de_call h_marks (hr.mono (by decide)) (by rfl) (da_cons (de_var 3) (da_cons (de_var 13) (da_cons (de_var 5) (da_cons (de_var 6) da_nil))))) (de_var 7))))) (ds_one (dp_ret de_bl)) ds_nil)
    (ds_cons (dp_par (i := 14) (j := 15) rfl sc_law.nd rfl rfl (by decide) rfl rfl (da_cons (de_call h_law_spot (hr.mono (by decide)) (by rfl) (da_cons (de_var 1) (da_cons (de_var 3) da_nil))) (da_cons (de_call h_law_spot (hr.mono (by decide)) (by rfl) (da_cons (de_var 1) (da_cons (de_var 3) da_nil))) da_nil)) (by rfl))
    (ds_cons (dp_set (i := 16) sc_law.nd rfl (by first | exact .inl rfl | exact .inr rfl) (de_call h_last_tick (hr.mono (by decide)) (by rfl) (da_cons (de_var 3) (da_cons (de_var 4) (da_cons (de_var 5) (da_cons (de_var 14) (da_cons (de_var 15) da_nil)))))))
    (ds_cons (dp_set (i := 17) sc_law.nd rfl (by first | exact .inl rfl | exact .inr rfl) (de_lst (da_cons (de_call h_law_named (hr.mono (by decide)) (by rfl) (da_cons (de_var 8) (da_cons (de_var 14) da_nil))) (da_cons (de_call h_law_named (hr.mono (by decide)) (by rfl) (da_cons (de_var 8) (da_cons (de_var 15) da_nil))) da_nil))))
    (ds_cons (dp_if (dt_cmp (ro_ne hu) (de_call h_last_tick (hr.mono (by decide)) (by rfl) (da_cons (de_var 3) (da_cons (de_call h_law_lying (hr.mono (by decide)) (by rfl) (da_cons (de_var 8) (da_cons (de_var 4) da_nil))) (da_cons (de_var 5) (da_cons (de_ixA hu (de_var 17) de_int) (da_cons (de_ixA hu (de_var 17) de_int) da_nil)))))) (de_var 16)) (ds_one (dp_ret de_bl)) ds_nil)
    (ds_cons (dp_set (i := 18) sc_law.nd rfl (by first | exact .inl rfl | exact .inr rfl) (de_call h_road (hr.mono (by decide)) (by rfl) (da_cons (de_var 3) (da_cons (de_var 4) (da_cons (de_var 5) (da_cons (de_tup (da_cons de_int (da_cons (de_var 14) (da_cons de_int da_nil)))) (da_cons (de_var 15) da_nil)))))))
    (ds_cons (dp_if (dt_cmp (ro_ne hu) (de_call h_road (hr.mono (by decide)) (by rfl) (da_cons (de_var 3) (da_cons (de_var 11) (da_cons (de_var 12) (da_cons (de_tup (da_cons de_int (da_cons (de_var 14) (da_cons de_int da_nil)))) (da_cons (de_var 15) da_nil)))))) (de_var 18)) (ds_one (dp_ret de_bl)) ds_nil)
    (ds_cons (dp_set (i := 19) sc_law.nd rfl (by first | exact .inl rfl | exact .inr rfl) (de_tup (da_cons (de_bt (rb_min2 rfl) (by rfl) T.n_min bt_min (da_cons (de_ixA hu (de_var 3) de_int) (da_cons de_int da_nil))) (da_cons (de_ixA hu (de_var 3) de_int) da_nil))))
    (ds_cons (dp_set (i := 20) sc_law.nd rfl (by first | exact .inl rfl | exact .inr rfl) (de_call h_law_stand (hr.mono (by decide)) (by rfl) (da_cons (de_var 1) (da_cons (de_var 19) da_nil))))
    (ds_cons (dp_par (i := 14) (j := 15) rfl sc_law.nd rfl rfl (by decide) rfl rfl (da_cons (de_call h_law_spot (hr.mono (by decide)) (by rfl) (da_cons (de_var 1) (da_cons (de_var 19) da_nil))) (da_cons (de_call h_law_spot (hr.mono (by decide)) (by rfl) (da_cons (de_var 1) (da_cons (de_var 19) da_nil))) da_nil)) (by rfl))
    (ds_cons (dp_par (i := 21) (j := 22) rfl sc_law.nd rfl rfl (by decide) rfl rfl (da_cons (de_callX (np := 4) (ks := ["wet"]) h_bring (hr.mono (by decide)) (by rfl) (da_cons (de_var 19) (da_cons (de_var 20) (da_cons (de_var 14) (da_cons (de_var 15) da_nil))))) (da_cons (de_callX (np := 4) (ks := ["wet"]) h_bring (hr.mono (by decide)) (by rfl) (da_cons (de_var 19) (da_cons (de_call h_law_mirrored (hr.mono (by decide)) (by rfl) (da_cons (de_var 19) (da_cons (de_var 20) da_nil))) (da_cons (de_var 14) (da_cons (de_var 15) da_nil))))) da_nil)) (by rfl))
    (ds_one (dp_if (dt_cmp (ro_ne hu) (de_ifExp (dt_isN (de_var 21)) de_non (de_bt (rb_len) (by rfl) T.n_len bt_len (da_cons (de_var 21) da_nil))) (de_ifExp (dt_isN (de_var 22)) de_non (de_bt (rb_len) (by rfl) T.n_len bt_len (da_cons (de_var 22) da_nil)))) (ds_one (dp_ret de_bl)) ds_nil))))))))))))))))))))))))
    (ds_one (dp_ret de_bl)))
end
section
variable {P : Program} {w : World} {K : PySem.W.Frag} {mg : Str → Option Value} {base : Heap}
theorem ok_law {f : Addr} {fd : FuncData} (T : Txt mg) (hF : Fun K "law" "law" s_law f fd) {C : Addr} (h_law_shape : Has P w K mg base "_law_shape" 2 3 F_law_shape) (h_law_stand : Has P w K mg base "_law_stand" 3 2 F_law_stand) (h_law_row : Has P w K mg base "_law_row" 3 3 F_law_row) (h_law_draw : Has P w K mg base "_law_draw" 1 2 F_law_draw) (h_law_drop : Has P w K mg base "_law_drop" 3 3 F_law_drop) (h_ticks : Has P w K mg base "ticks" 2 1 F_ticks) (h_marks : Has P w K mg base "marks" 6 4 F_marks) (h_law_any_order : Has P w K mg base "_law_any_order" 2 2 F_law_any_order) (h_law_named : Has P w K mg base "_law_named" 1 2 F_law_named) (h_law_lying : Has P w K mg base "_law_lying" 1 2 F_law_lying) (h_law_mirrored : Has P w K mg base "_law_mirrored" 1 2 F_law_mirrored) (h_law_mirrored_row : Has P w K mg base "_law_mirrored_row" 1 2 F_law_mirrored_row) (h_law_spot : Has P w K mg base "_law_spot" 2 2 F_law_spot) (h_last_tick : Has P w K mg base "last_tick" 5 5 F_last_tick) (h_road : Has P w K mg base "road" 7 5 F_road) (h_bring : HasX P w K mg base "bring" 5 4 ["wet"] [12] C [("most", .int 3)] FX_bring) : FnOk P w K mg base CX0 8 f fd ["_law_script"] (spLaw K) := by
  refine hF.ok sc_law (fun vs H Q E h => ?_) (fun cdv A outer s H vs Q E hr h => ?_)
  · obtain ⟨a, ns, rfl, _⟩ := h
    rfl
  · obtain ⟨a, ns, rfl, hS, hlen, k⟩ := h
    refine ⟨_, pss_cons (ps_set (i := 1) sc_law.nd rfl (by first | exact .inl rfl | exact .inr rfl) (pe_lst (pa_cons (pe_callTy (callR_frz call_list_of) (by rfl) T.n_list bt_list (pa_cons (pv 0) pa_nil)) (pa_cons pe_int (pa_cons pe_int pa_nil))))) (dps_law T h_law_shape h_law_stand h_law_row h_law_draw h_law_drop h_ticks h_marks h_law_any_order h_law_named h_law_lying h_law_mirrored h_law_mirrored_row h_law_spot h_last_tick h_road h_bring hr), ?_⟩
    refine ⟨_, rfl, a, _, rfl, .inl hS, fun l hl => ⟨l, _, rfl, upd_same, fun o => ?_⟩⟩
    rw [upd_upd]
    refine ⟨(show 3 ≤ sizeLine by decide), fun p hp => ?_⟩
    have npl : l ≠ p := fun e => by subst e; rw [upd_same] at hp; cases hp
    refine ⟨[p], _, endL, tape_reps (n := 27) (tape_rep (l := l) (o := o) (by rw [upd_ne npl, upd_same]) upd_same) rfl rfl, sp_law ns, ends_law rfl k⟩
end
section
variable {P : Program} {w : World} {K : PySem.W.Frag} {mg : Str → Option Value} {base : Heap}
abbrev si_TooMany : Stmt := (clB (top 22)).getD 0 (.Pass ⟨0, 0, 0, 0⟩)
theorem si_sc_TooMany : FnScope ["self", "most"] ["self", "most"] (defScope si_TooMany) := ⟨rfl, rfl, rfl, by decide +kernel, rfl, by decide +kernel, by decide +kernel⟩
theorem ini_TooMany {fI B : Addr} {fd : FuncData} {mc : Value} (F : Fun K "__init__" "TooMany.__init__" si_TooMany fI fd) (mB : mg "AskedError" = some (.ref B)) (rB : ClX.CRead K B mc) (vB : PySem.W.findCls K (.ref B) mc "__init__" = some (.val (.builtin "ValueError.__init__"))) : FnOk P w K mg base CX0 1 fI fd ["self", "most"] (spIni K "most") :=
  F.ok si_sc_TooMany (fun vs H Q E ⟨a, C, y, e, _⟩ => by subst e; rfl) (fun cdv A outer s H vs Q E hr h => ⟨t_ini K "most" "more leaves or cells than are gone through", pss_cons (ps_expr (pe_ownInit (by rfl) mB rB vB (pa_cons (pv 0) (pa_cons pe_str pa_nil)))) (pss_one (ps_ost (pv 0) (pv 1))), ini_law h⟩)
end

theorem all_mk {l : PySem.W.OpenLaw} {w : World} {K : PySem.W.Frag} {h : Heap} {mg : Str → Option Value} {fa : Addr} (X : K.In h) (G : h.Ns mainGlobals mg) (hfa : mg "law" = some (.ref fa))
    {f0 : Addr} {od0 an0 : Option Addr} {sl0 : Array (Option Value)} {oc0 kV0 dc0 pm0 cd0 ct0 : Value}
    (a0 : PySem.W.nsIn K mainGlobals "far_from_back" = some (some (.ref f0))) (l0 : K.lookup f0 = some ⟨oc0, od0, .func (PySem.W.fnOf "far_from_back" "far_from_back" (defArgs s_far_from_back) (defBody s_far_from_back) (defScope s_far_from_back) .none kV0 dc0 pm0 an0 cd0 ct0), sl0⟩) (c0 : PySem.W.codeIn K cd0 "far_from_back" = true) (k0 : PySem.W.keepIn K (.ref f0) = true)
    {f1 : Addr} {od1 an1 : Option Addr} {sl1 : Array (Option Value)} {oc1 kV1 dc1 pm1 cd1 ct1 : Value}
    (a1 : PySem.W.nsIn K mainGlobals "touched" = some (some (.ref f1))) (l1 : K.lookup f1 = some ⟨oc1, od1, .func (PySem.W.fnOf "touched" "touched" (defArgs s_touched) (defBody s_touched) (defScope s_touched) .none kV1 dc1 pm1 an1 cd1 ct1), sl1⟩) (c1 : PySem.W.codeIn K cd1 "touched" = true) (k1 : PySem.W.keepIn K (.ref f1) = true)
    {f2 : Addr} {od2 an2 : Option Addr} {sl2 : Array (Option Value)} {oc2 kV2 dc2 pm2 cd2 ct2 : Value}
    (a2 : PySem.W.nsIn K mainGlobals "pairs_at" = some (some (.ref f2))) (l2 : K.lookup f2 = some ⟨oc2, od2, .func (PySem.W.fnOf "pairs_at" "pairs_at" (defArgs s_pairs_at) (defBody s_pairs_at) (defScope s_pairs_at) .none kV2 dc2 pm2 an2 cd2 ct2), sl2⟩) (c2 : PySem.W.codeIn K cd2 "pairs_at" = true) (k2 : PySem.W.keepIn K (.ref f2) = true)
    {f3 : Addr} {od3 an3 : Option Addr} {sl3 : Array (Option Value)} {oc3 kV3 dc3 pm3 cd3 ct3 : Value}
    (a3 : PySem.W.nsIn K mainGlobals "takes" = some (some (.ref f3))) (l3 : K.lookup f3 = some ⟨oc3, od3, .func (PySem.W.fnOf "takes" "takes" (defArgs s_takes) (defBody s_takes) (defScope s_takes) .none kV3 dc3 pm3 an3 cd3 ct3), sl3⟩) (c3 : PySem.W.codeIn K cd3 "takes" = true) (k3 : PySem.W.keepIn K (.ref f3) = true)
    {f4 : Addr} {od4 an4 : Option Addr} {sl4 : Array (Option Value)} {oc4 kV4 dc4 pm4 cd4 ct4 : Value}
    (a4 : PySem.W.nsIn K mainGlobals "ticks" = some (some (.ref f4))) (l4 : K.lookup f4 = some ⟨oc4, od4, .func (PySem.W.fnOf "ticks" "ticks" (defArgs s_ticks) (defBody s_ticks) (defScope s_ticks) .none kV4 dc4 pm4 an4 cd4 ct4), sl4⟩) (c4 : PySem.W.codeIn K cd4 "ticks" = true) (k4 : PySem.W.keepIn K (.ref f4) = true)
    {f5 : Addr} {od5 an5 : Option Addr} {sl5 : Array (Option Value)} {oc5 kV5 dc5 pm5 cd5 ct5 : Value}
    (a5 : PySem.W.nsIn K mainGlobals "moved" = some (some (.ref f5))) (l5 : K.lookup f5 = some ⟨oc5, od5, .func (PySem.W.fnOf "moved" "moved" (defArgs s_moved) (defBody s_moved) (defScope s_moved) .none kV5 dc5 pm5 an5 cd5 ct5), sl5⟩) (c5 : PySem.W.codeIn K cd5 "moved" = true) (k5 : PySem.W.keepIn K (.ref f5) = true)
    {f6 : Addr} {od6 an6 : Option Addr} {sl6 : Array (Option Value)} {oc6 kV6 dc6 pm6 cd6 ct6 : Value}
    (a6 : PySem.W.nsIn K mainGlobals "presses" = some (some (.ref f6))) (l6 : K.lookup f6 = some ⟨oc6, od6, .func (PySem.W.fnOf "presses" "presses" (defArgs s_presses) (defBody s_presses) (defScope s_presses) .none kV6 dc6 pm6 an6 cd6 ct6), sl6⟩) (c6 : PySem.W.codeIn K cd6 "presses" = true) (k6 : PySem.W.keepIn K (.ref f6) = true)
    {f7 : Addr} {od7 an7 : Option Addr} {sl7 : Array (Option Value)} {oc7 kV7 dc7 pm7 cd7 ct7 : Value}
    (a7 : PySem.W.nsIn K mainGlobals "put_on" = some (some (.ref f7))) (l7 : K.lookup f7 = some ⟨oc7, od7, .func (PySem.W.fnOf "put_on" "put_on" (defArgs s_put_on) (defBody s_put_on) (defScope s_put_on) .none kV7 dc7 pm7 an7 cd7 ct7), sl7⟩) (c7 : PySem.W.codeIn K cd7 "put_on" = true) (k7 : PySem.W.keepIn K (.ref f7) = true)
    {f8 : Addr} {od8 an8 : Option Addr} {sl8 : Array (Option Value)} {oc8 kV8 dc8 pm8 cd8 ct8 : Value}
    (a8 : PySem.W.nsIn K mainGlobals "pressed" = some (some (.ref f8))) (l8 : K.lookup f8 = some ⟨oc8, od8, .func (PySem.W.fnOf "pressed" "pressed" (defArgs s_pressed) (defBody s_pressed) (defScope s_pressed) .none kV8 dc8 pm8 an8 cd8 ct8), sl8⟩) (c8 : PySem.W.codeIn K cd8 "pressed" = true) (k8 : PySem.W.keepIn K (.ref f8) = true)
    {f9 : Addr} {od9 an9 : Option Addr} {sl9 : Array (Option Value)} {oc9 kV9 dc9 pm9 cd9 ct9 : Value}
    (a9 : PySem.W.nsIn K mainGlobals "spread" = some (some (.ref f9))) (l9 : K.lookup f9 = some ⟨oc9, od9, .func (PySem.W.fnOf "spread" "spread" (defArgs s_spread) (defBody s_spread) (defScope s_spread) .none kV9 dc9 pm9 an9 cd9 ct9), sl9⟩) (c9 : PySem.W.codeIn K cd9 "spread" = true) (k9 : PySem.W.keepIn K (.ref f9) = true)
    {f10 : Addr} {od10 an10 : Option Addr} {sl10 : Array (Option Value)} {oc10 kV10 dc10 pm10 cd10 ct10 : Value}
    (a10 : PySem.W.nsIn K mainGlobals "marks" = some (some (.ref f10))) (l10 : K.lookup f10 = some ⟨oc10, od10, .func (PySem.W.fnOf "marks" "marks" (defArgs s_marks) (defBody s_marks) (defScope s_marks) .none kV10 dc10 pm10 an10 cd10 ct10), sl10⟩) (c10 : PySem.W.codeIn K cd10 "marks" = true) (k10 : PySem.W.keepIn K (.ref f10) = true)
    {f11 : Addr} {od11 an11 : Option Addr} {sl11 : Array (Option Value)} {oc11 kV11 dc11 pm11 cd11 ct11 : Value}
    (a11 : PySem.W.nsIn K mainGlobals "partner" = some (some (.ref f11))) (l11 : K.lookup f11 = some ⟨oc11, od11, .func (PySem.W.fnOf "partner" "partner" (defArgs s_partner) (defBody s_partner) (defScope s_partner) .none kV11 dc11 pm11 an11 cd11 ct11), sl11⟩) (c11 : PySem.W.codeIn K cd11 "partner" = true) (k11 : PySem.W.keepIn K (.ref f11) = true)
    {f12 : Addr} {od12 an12 : Option Addr} {sl12 : Array (Option Value)} {oc12 kV12 dc12 pm12 cd12 ct12 : Value}
    (a12 : PySem.W.nsIn K mainGlobals "roads" = some (some (.ref f12))) (l12 : K.lookup f12 = some ⟨oc12, od12, .func (PySem.W.fnOf "roads" "roads" (defArgs s_roads) (defBody s_roads) (defScope s_roads) .none kV12 dc12 pm12 an12 cd12 ct12), sl12⟩) (c12 : PySem.W.codeIn K cd12 "roads" = true) (k12 : PySem.W.keepIn K (.ref f12) = true)
    {f13 : Addr} {od13 an13 : Option Addr} {sl13 : Array (Option Value)} {oc13 kV13 dc13 pm13 cd13 ct13 : Value}
    (a13 : PySem.W.nsIn K mainGlobals "is_better" = some (some (.ref f13))) (l13 : K.lookup f13 = some ⟨oc13, od13, .func (PySem.W.fnOf "is_better" "is_better" (defArgs s_is_better) (defBody s_is_better) (defScope s_is_better) .none kV13 dc13 pm13 an13 cd13 ct13), sl13⟩) (c13 : PySem.W.codeIn K cd13 "is_better" = true) (k13 : PySem.W.keepIn K (.ref f13) = true)
    {f14 : Addr} {od14 an14 : Option Addr} {sl14 : Array (Option Value)} {oc14 kV14 dc14 pm14 cd14 ct14 : Value}
    (a14 : PySem.W.nsIn K mainGlobals "best_road" = some (some (.ref f14))) (l14 : K.lookup f14 = some ⟨oc14, od14, .func (PySem.W.fnOf "best_road" "best_road" (defArgs s_best_road) (defBody s_best_road) (defScope s_best_road) .none kV14 dc14 pm14 an14 cd14 ct14), sl14⟩) (c14 : PySem.W.codeIn K cd14 "best_road" = true) (k14 : PySem.W.keepIn K (.ref f14) = true)
    {f15 : Addr} {od15 an15 : Option Addr} {sl15 : Array (Option Value)} {oc15 kV15 dc15 pm15 cd15 ct15 : Value}
    (a15 : PySem.W.nsIn K mainGlobals "road" = some (some (.ref f15))) (l15 : K.lookup f15 = some ⟨oc15, od15, .func (PySem.W.fnOf "road" "road" (defArgs s_road) (defBody s_road) (defScope s_road) .none kV15 dc15 pm15 an15 cd15 ct15), sl15⟩) (c15 : PySem.W.codeIn K cd15 "road" = true) (k15 : PySem.W.keepIn K (.ref f15) = true)
    {f16 : Addr} {od16 an16 : Option Addr} {sl16 : Array (Option Value)} {oc16 kV16 dc16 pm16 cd16 ct16 : Value}
    (a16 : PySem.W.nsIn K mainGlobals "last_tick" = some (some (.ref f16))) (l16 : K.lookup f16 = some ⟨oc16, od16, .func (PySem.W.fnOf "last_tick" "last_tick" (defArgs s_last_tick) (defBody s_last_tick) (defScope s_last_tick) .none kV16 dc16 pm16 an16 cd16 ct16), sl16⟩) (c16 : PySem.W.codeIn K cd16 "last_tick" = true) (k16 : PySem.W.keepIn K (.ref f16) = true)
    {f17 : Addr} {od17 an17 : Option Addr} {sl17 : Array (Option Value)} {oc17 kV17 dc17 pm17 cd17 ct17 : Value}
    (a17 : PySem.W.nsIn K mainGlobals "all_deeds" = some (some (.ref f17))) (l17 : K.lookup f17 = some ⟨oc17, od17, .func (PySem.W.fnOf "all_deeds" "all_deeds" (defArgs s_all_deeds) (defBody s_all_deeds) (defScope s_all_deeds) .none kV17 dc17 pm17 an17 cd17 ct17), sl17⟩) (c17 : PySem.W.codeIn K cd17 "all_deeds" = true) (k17 : PySem.W.keepIn K (.ref f17) = true)
    {f18 : Addr} {od18 an18 : Option Addr} {sl18 : Array (Option Value)} {oc18 kV18 dc18 pm18 cd18 ct18 : Value}
    (a18 : PySem.W.nsIn K mainGlobals "later" = some (some (.ref f18))) (l18 : K.lookup f18 = some ⟨oc18, od18, .func (PySem.W.fnOf "later" "later" (defArgs s_later) (defBody s_later) (defScope s_later) .none kV18 dc18 pm18 an18 cd18 ct18), sl18⟩) (c18 : PySem.W.codeIn K cd18 "later" = true) (k18 : PySem.W.keepIn K (.ref f18) = true)
    {f19 : Addr} {od19 an19 : Option Addr} {sl19 : Array (Option Value)} {oc19 dc19 pm19 cd19 ct19 : Value} {kD19 : Addr} {tw19 : Tok}
    (a19 : PySem.W.nsIn K mainGlobals "bring" = some (some (.ref f19))) (l19 : K.lookup f19 = some ⟨oc19, od19, .func (PySem.W.fnOf "bring" "bring" (defArgs s_bring) (defBody s_bring) (defScope s_bring) .none (.ref kD19) dc19 pm19 an19 cd19 ct19), sl19⟩) (c19 : PySem.W.codeIn K cd19 "bring" = true) (k19 : PySem.W.keepIn K (.ref f19) = true)
    (w19 : PySem.W.nsIn K kD19 "wet" = some (some (.int 12 tw19)))
    {f20 : Addr} {od20 an20 : Option Addr} {sl20 : Array (Option Value)} {oc20 kV20 dc20 pm20 cd20 ct20 : Value}
    (a20 : PySem.W.nsIn K mainGlobals "_law_draw" = some (some (.ref f20))) (l20 : K.lookup f20 = some ⟨oc20, od20, .func (PySem.W.fnOf "_law_draw" "_law_draw" (defArgs s_law_draw) (defBody s_law_draw) (defScope s_law_draw) .none kV20 dc20 pm20 an20 cd20 ct20), sl20⟩) (c20 : PySem.W.codeIn K cd20 "_law_draw" = true) (k20 : PySem.W.keepIn K (.ref f20) = true)
    {f21 : Addr} {od21 an21 : Option Addr} {sl21 : Array (Option Value)} {oc21 kV21 dc21 pm21 cd21 ct21 : Value}
    (a21 : PySem.W.nsIn K mainGlobals "_law_any_order" = some (some (.ref f21))) (l21 : K.lookup f21 = some ⟨oc21, od21, .func (PySem.W.fnOf "_law_any_order" "_law_any_order" (defArgs s_law_any_order) (defBody s_law_any_order) (defScope s_law_any_order) .none kV21 dc21 pm21 an21 cd21 ct21), sl21⟩) (c21 : PySem.W.codeIn K cd21 "_law_any_order" = true) (k21 : PySem.W.keepIn K (.ref f21) = true)
    {f22 : Addr} {od22 an22 : Option Addr} {sl22 : Array (Option Value)} {oc22 kV22 dc22 pm22 cd22 ct22 : Value}
    (a22 : PySem.W.nsIn K mainGlobals "_law_shape" = some (some (.ref f22))) (l22 : K.lookup f22 = some ⟨oc22, od22, .func (PySem.W.fnOf "_law_shape" "_law_shape" (defArgs s_law_shape) (defBody s_law_shape) (defScope s_law_shape) .none kV22 dc22 pm22 an22 cd22 ct22), sl22⟩) (c22 : PySem.W.codeIn K cd22 "_law_shape" = true) (k22 : PySem.W.keepIn K (.ref f22) = true)
    {f23 : Addr} {od23 an23 : Option Addr} {sl23 : Array (Option Value)} {oc23 kV23 dc23 pm23 cd23 ct23 : Value}
    (a23 : PySem.W.nsIn K mainGlobals "_law_spot" = some (some (.ref f23))) (l23 : K.lookup f23 = some ⟨oc23, od23, .func (PySem.W.fnOf "_law_spot" "_law_spot" (defArgs s_law_spot) (defBody s_law_spot) (defScope s_law_spot) .none kV23 dc23 pm23 an23 cd23 ct23), sl23⟩) (c23 : PySem.W.codeIn K cd23 "_law_spot" = true) (k23 : PySem.W.keepIn K (.ref f23) = true)
    {f24 : Addr} {od24 an24 : Option Addr} {sl24 : Array (Option Value)} {oc24 kV24 dc24 pm24 cd24 ct24 : Value}
    (a24 : PySem.W.nsIn K mainGlobals "_law_stand" = some (some (.ref f24))) (l24 : K.lookup f24 = some ⟨oc24, od24, .func (PySem.W.fnOf "_law_stand" "_law_stand" (defArgs s_law_stand) (defBody s_law_stand) (defScope s_law_stand) .none kV24 dc24 pm24 an24 cd24 ct24), sl24⟩) (c24 : PySem.W.codeIn K cd24 "_law_stand" = true) (k24 : PySem.W.keepIn K (.ref f24) = true)
    {f25 : Addr} {od25 an25 : Option Addr} {sl25 : Array (Option Value)} {oc25 kV25 dc25 pm25 cd25 ct25 : Value}
    (a25 : PySem.W.nsIn K mainGlobals "_law_a_deed" = some (some (.ref f25))) (l25 : K.lookup f25 = some ⟨oc25, od25, .func (PySem.W.fnOf "_law_a_deed" "_law_a_deed" (defArgs s_law_a_deed) (defBody s_law_a_deed) (defScope s_law_a_deed) .none kV25 dc25 pm25 an25 cd25 ct25), sl25⟩) (c25 : PySem.W.codeIn K cd25 "_law_a_deed" = true) (k25 : PySem.W.keepIn K (.ref f25) = true)
    {f26 : Addr} {od26 an26 : Option Addr} {sl26 : Array (Option Value)} {oc26 kV26 dc26 pm26 cd26 ct26 : Value}
    (a26 : PySem.W.nsIn K mainGlobals "_law_row" = some (some (.ref f26))) (l26 : K.lookup f26 = some ⟨oc26, od26, .func (PySem.W.fnOf "_law_row" "_law_row" (defArgs s_law_row) (defBody s_law_row) (defScope s_law_row) .none kV26 dc26 pm26 an26 cd26 ct26), sl26⟩) (c26 : PySem.W.codeIn K cd26 "_law_row" = true) (k26 : PySem.W.keepIn K (.ref f26) = true)
    {f27 : Addr} {od27 an27 : Option Addr} {sl27 : Array (Option Value)} {oc27 kV27 dc27 pm27 cd27 ct27 : Value}
    (a27 : PySem.W.nsIn K mainGlobals "_law_drop" = some (some (.ref f27))) (l27 : K.lookup f27 = some ⟨oc27, od27, .func (PySem.W.fnOf "_law_drop" "_law_drop" (defArgs s_law_drop) (defBody s_law_drop) (defScope s_law_drop) .none kV27 dc27 pm27 an27 cd27 ct27), sl27⟩) (c27 : PySem.W.codeIn K cd27 "_law_drop" = true) (k27 : PySem.W.keepIn K (.ref f27) = true)
    {f28 : Addr} {od28 an28 : Option Addr} {sl28 : Array (Option Value)} {oc28 kV28 dc28 pm28 cd28 ct28 : Value}
    (a28 : PySem.W.nsIn K mainGlobals "_law_named" = some (some (.ref f28))) (l28 : K.lookup f28 = some ⟨oc28, od28, .func (PySem.W.fnOf "_law_named" "_law_named" (defArgs s_law_named) (defBody s_law_named) (defScope s_law_named) .none kV28 dc28 pm28 an28 cd28 ct28), sl28⟩) (c28 : PySem.W.codeIn K cd28 "_law_named" = true) (k28 : PySem.W.keepIn K (.ref f28) = true)
    {f29 : Addr} {od29 an29 : Option Addr} {sl29 : Array (Option Value)} {oc29 kV29 dc29 pm29 cd29 ct29 : Value}
    (a29 : PySem.W.nsIn K mainGlobals "_law_lying" = some (some (.ref f29))) (l29 : K.lookup f29 = some ⟨oc29, od29, .func (PySem.W.fnOf "_law_lying" "_law_lying" (defArgs s_law_lying) (defBody s_law_lying) (defScope s_law_lying) .none kV29 dc29 pm29 an29 cd29 ct29), sl29⟩) (c29 : PySem.W.codeIn K cd29 "_law_lying" = true) (k29 : PySem.W.keepIn K (.ref f29) = true)
    {f30 : Addr} {od30 an30 : Option Addr} {sl30 : Array (Option Value)} {oc30 kV30 dc30 pm30 cd30 ct30 : Value}
    (a30 : PySem.W.nsIn K mainGlobals "_law_mirrored" = some (some (.ref f30))) (l30 : K.lookup f30 = some ⟨oc30, od30, .func (PySem.W.fnOf "_law_mirrored" "_law_mirrored" (defArgs s_law_mirrored) (defBody s_law_mirrored) (defScope s_law_mirrored) .none kV30 dc30 pm30 an30 cd30 ct30), sl30⟩) (c30 : PySem.W.codeIn K cd30 "_law_mirrored" = true) (k30 : PySem.W.keepIn K (.ref f30) = true)
    {f31 : Addr} {od31 an31 : Option Addr} {sl31 : Array (Option Value)} {oc31 kV31 dc31 pm31 cd31 ct31 : Value}
    (a31 : PySem.W.nsIn K mainGlobals "_law_mirrored_row" = some (some (.ref f31))) (l31 : K.lookup f31 = some ⟨oc31, od31, .func (PySem.W.fnOf "_law_mirrored_row" "_law_mirrored_row" (defArgs s_law_mirrored_row) (defBody s_law_mirrored_row) (defScope s_law_mirrored_row) .none kV31 dc31 pm31 an31 cd31 ct31), sl31⟩) (c31 : PySem.W.codeIn K cd31 "_law_mirrored_row" = true) (k31 : PySem.W.keepIn K (.ref f31) = true)
    {f32 : Addr} {od32 an32 : Option Addr} {sl32 : Array (Option Value)} {oc32 kV32 dc32 pm32 cd32 ct32 : Value}
    (a32 : PySem.W.nsIn K mainGlobals "law" = some (some (.ref f32))) (l32 : K.lookup f32 = some ⟨oc32, od32, .func (PySem.W.fnOf "law" "law" (defArgs s_law) (defBody s_law) (defScope s_law) .none kV32 dc32 pm32 an32 cd32 ct32), sl32⟩) (c32 : PySem.W.codeIn K cd32 "law" = true) (k32 : PySem.W.keepIn K (.ref f32) = true)
    {C0 B0 B00 NS0 fI0 : Addr} {nm0 q0 : Str} {bs0 : List Value} {sn0 : List Str} {sub0 : List Value} {ab0 : Bool} {col0 : Option Bool} {dd0 : Option Addr} {m00 m10 m20 m30 m50 : Option Value} {odI0 anI0 : Option Addr} {slI0 : Array (Option Value)} {ocI0 kVI0 dcI0 pmI0 cdI0 ctI0 : Value}
    (aC0 : PySem.W.nsIn K mainGlobals "TooMany" = some (some (.ref C0)))
    (aB0 : PySem.W.nsIn K mainGlobals "AskedError" = some (some (.ref B0)))
    (xL0 : K.lookup C0 = some (excClassObj nm0 q0 C0 NS0 bs0 [.ref B0, .ref B00, .type "ValueError", .type "Exception", .type "BaseException", .type "object"] true sn0 sub0 ab0 col0 dd0 m00 m10 m20 m30 m50 "ValueError.__new__"))
    (sa0 : PySem.W.findIn K (.ref C0) "__setattr__" = some (some (.builtin "object.__setattr__")))
    (xC0 : PySem.W.subIn K (.ref C0) (.type "BaseException") = some true)
    (tC0 : PySem.W.typeIn K (.ref C0) = some (.type "type"))
    (kC0 : PySem.W.keepIn K (.ref C0) = true)
    (ga0 : PySem.W.findIn K (.ref C0) "__getattribute__" = some (some (.builtin "BaseException.__getattribute__")))
    (gg0 : PySem.W.findIn K (.ref C0) "__getattr__" = some none)
    (no0 : PySem.W.findIn K (.ref C0) "most" = some none)
    (hd0 : PySem.W.hasDictIn K C0 = true)
    (cl0 : PySem.W.isClsIn K C0 = true)
    (ca0 : PySem.W.findIn K (.ref C0) "__class__" = some (some (.builtin "object.__class__")))
    (cn0 : PySem.W.specialIn K (.builtin "object.__class__") "__get__" = some (some (.builtin "getset_descriptor.__get__")))
    (ct0 : PySem.W.takesIn K (.builtin "object.__class__") = some true)
    (cm0 : PySem.W.mroIn K C0 (.type "object") = some true)
    (te0 : PySem.W.subIn K (.ref C0) (.ref C0) = some true)
    (iC0 : PySem.W.findIn K (.ref C0) "__init__" = some (some (.ref fI0)))
    (tI0 : PySem.W.typeIn K (.ref fI0) = some (.type "function"))
    (lI0 : K.lookup fI0 = some ⟨ocI0, odI0, .func (PySem.W.fnOf "__init__" "TooMany.__init__" (defArgs si_TooMany) (defBody si_TooMany) (defScope si_TooMany) .none kVI0 dcI0 pmI0 anI0 cdI0 ctI0), slI0⟩)
    (cI0 : PySem.W.codeIn K cdI0 "TooMany.__init__" = true)
    (kI0 : PySem.W.keepIn K (.ref fI0) = true)
    (rB0 : PySem.W.readsIn K B0 (.type "type") = true)
    (gB0 : PySem.W.specialIn K (.ref B0) "__getattribute__" = some (some (.builtin "type.__getattribute__")))
    (vB0 : PySem.W.findCls K (.ref B0) (.type "type") "__init__" = some (.val (.builtin "ValueError.__init__")))
    (iB0 : PySem.W.isClsIn K B0 = true)
    (tB0 : PySem.W.typeIn K (.ref B0) = some (.type "type"))
    (kB0 : PySem.W.subIn K (.ref C0) (.ref B0) = some true)
    (z_len : PySem.W.nsIn K mainGlobals "len" = some none)
    (z_range : PySem.W.nsIn K mainGlobals "range" = some none)
    (z_sum : PySem.W.nsIn K mainGlobals "sum" = some none)
    (z_enumerate : PySem.W.nsIn K mainGlobals "enumerate" = some none)
    (z_min : PySem.W.nsIn K mainGlobals "min" = some none)
    (z_max : PySem.W.nsIn K mainGlobals "max" = some none)
    (z_sorted : PySem.W.nsIn K mainGlobals "sorted" = some none)
    (z_dict : PySem.W.nsIn K mainGlobals "dict" = some none)
    (z_list : PySem.W.nsIn K mainGlobals "list" = some none)
    (z_tuple : PySem.W.nsIn K mainGlobals "tuple" = some none)
    {t_MOST : Tok} (q_MOST : PySem.W.nsIn K mainGlobals "MOST" = some (some (.int (3) t_MOST)))
    : ∃ fd : FuncData, (∀ (s : Shared) (v : Value), BindsTo s fd ⟨[v], []⟩ [("_law_script", v)]) ∧ ∀ base : Heap, K.In base → base.Ns mainGlobals mg → FnOk l.prog w K mg base CX0 8 fa fd ["_law_script"] (spLaw K) := by
  have e := hfa.symm.trans (PySem.W.mg_of X G a32)
  cases e
  have T : Txt mg := ⟨PySem.W.mg_none_of X G z_len, PySem.W.mg_none_of X G z_range, PySem.W.mg_none_of X G z_sum, PySem.W.mg_none_of X G z_enumerate, PySem.W.mg_none_of X G z_min, PySem.W.mg_none_of X G z_max, PySem.W.mg_none_of X G z_sorted, PySem.W.mg_none_of X G z_dict, PySem.W.mg_none_of X G z_list, ⟨_, PySem.W.mg_of X G q_MOST⟩, PySem.W.mg_none_of X G z_tuple⟩
  have F0 := fun_mk (st := s_far_from_back) l0 c0 k0
  have b0 := F0.binds (ps := ["shape", "about", "cell"]) fun _ _ _ _ _ _ us hl => match us, hl with | [_, _, _], _ => rfl
  have F1 := fun_mk (st := s_touched) l1 c1 k1
  have b1 := F1.binds (ps := ["shape", "stand", "spot"]) fun _ _ _ _ _ _ us hl => match us, hl with | [_, _, _], _ => rfl
  have F2 := fun_mk (st := s_pairs_at) l2 c2 k2
  have b2 := F2.binds (ps := ["shape", "stand", "gap"]) fun _ _ _ _ _ _ us hl => match us, hl with | [_, _, _], _ => rfl
  have F3 := fun_mk (st := s_takes) l3 c3 k3
  have b3 := F3.binds (ps := ["deed"]) fun _ _ _ _ _ _ us hl => match us, hl with | [_], _ => rfl
  have F4 := fun_mk (st := s_ticks) l4 c4 k4
  have b4 := F4.binds (ps := ["row"]) fun _ _ _ _ _ _ us hl => match us, hl with | [_], _ => rfl
  have F5 := fun_mk (st := s_moved) l5 c5 k5
  have b5 := F5.binds (ps := ["stand", "deed"]) fun _ _ _ _ _ _ us hl => match us, hl with | [_, _], _ => rfl
  have F6 := fun_mk (st := s_presses) l6 c6 k6
  have b6 := F6.binds (ps := ["shape", "stand", "row"]) fun _ _ _ _ _ _ us hl => match us, hl with | [_, _, _], _ => rfl
  have F7 := fun_mk (st := s_put_on) l7 c7 k7
  have b7 := F7.binds (ps := ["found", "spot", "since", "dry"]) fun _ _ _ _ _ _ us hl => match us, hl with | [_, _, _, _], _ => rfl
  have F8 := fun_mk (st := s_pressed) l8 c8 k8
  have b8 := F8.binds (ps := ["found", "tick", "pairs"]) fun _ _ _ _ _ _ us hl => match us, hl with | [_, _, _], _ => rfl
  have F9 := fun_mk (st := s_spread) l9 c9 k9
  have b9 := F9.binds (ps := ["shape", "stand", "row", "drops"]) fun _ _ _ _ _ _ us hl => match us, hl with | [_, _, _, _], _ => rfl
  have F10 := fun_mk (st := s_marks) l10 c10 k10
  have b10 := F10.binds (ps := ["shape", "stand", "row", "drops"]) fun _ _ _ _ _ _ us hl => match us, hl with | [_, _, _, _], _ => rfl
  have F11 := fun_mk (st := s_partner) l11 c11 k11
  have b11 := F11.binds (ps := ["pairs", "spot"]) fun _ _ _ _ _ _ us hl => match us, hl with | [_, _], _ => rfl
  have F12 := fun_mk (st := s_roads) l12 c12 k12
  have b12 := F12.binds (ps := ["shape", "stand", "row", "drop"]) fun _ _ _ _ _ _ us hl => match us, hl with | [_, _, _, _], _ => rfl
  have F13 := fun_mk (st := s_is_better) l13 c13 k13
  have b13 := F13.binds (ps := ["one", "other"]) fun _ _ _ _ _ _ us hl => match us, hl with | [_, _], _ => rfl
  have F14 := fun_mk (st := s_best_road) l14 c14 k14
  have b14 := F14.binds (ps := ["shape", "stand", "row", "drop", "goal"]) fun _ _ _ _ _ _ us hl => match us, hl with | [_, _, _, _, _], _ => rfl
  have F15 := fun_mk (st := s_road) l15 c15 k15
  have b15 := F15.binds (ps := ["shape", "stand", "row", "drop", "goal"]) fun _ _ _ _ _ _ us hl => match us, hl with | [_, _, _, _, _], _ => rfl
  have F16 := fun_mk (st := s_last_tick) l16 c16 k16
  have b16 := F16.binds (ps := ["shape", "stand", "row", "spot", "goal"]) fun _ _ _ _ _ _ us hl => match us, hl with | [_, _, _, _, _], _ => rfl
  have F17 := fun_mk (st := s_all_deeds) l17 c17 k17
  have b17 := F17.binds (ps := ["shape"]) fun _ _ _ _ _ _ us hl => match us, hl with | [_], _ => rfl
  have F18 := fun_mk (st := s_later) l18 c18 k18
  have b18 := F18.binds (ps := ["shape", "stand", "spot", "deed"]) fun _ _ _ _ _ _ us hl => match us, hl with | [_, _, _, _], _ => rfl
  have F19 := fun_mk (st := s_bring) l19 c19 k19
  have FD19 : FunD K "bring" "bring" (defArgs s_bring) (defBody s_bring) (defScope s_bring) [] [("wet", V.int 12)] f19 _ := ⟨⟨_, _, _, _, _, _, _, _, _, _, rfl, l19, c19, .inl ⟨rfl, rfl⟩, .inr ⟨_, rfl, fun q hq => by (have hq := List.mem_singleton.mp hq); subst hq; exact ⟨_, w19, ⟨_, rfl⟩⟩⟩⟩, k19⟩
  have b19 := FD19.binds0 (ps := ["shape", "stand", "spot", "goal", "wet"]) 4 (by simp) rfl (fun D doc pm an cdv ct us ks l1 l2 => match us, ks, l1, l2 with | [_, _, _, _], [_], _, _ => ⟨_, _, _, _, _, _, rfl, rfl, rfl⟩)
  have kb19 : KBn K (PySem.W.fnOf "bring" "bring" (defArgs s_bring) (defBody s_bring) (defScope s_bring) .none (.ref kD19) dc19 pm19 an19 cd19 ct19) ["shape", "stand", "spot", "goal", "wet"] 4 ["wet"] (fun us ws => us ++ ws) (fun vs zs => vs ++ zs) := ⟨fun s us ws _ l1 l2 => match us, ws, l1, l2 with | [_, _, _, _], [_], _, _ => .of_eq rfl, fun r1 r2 => r1.append r2⟩
  have F20 := fun_mk (st := s_law_draw) l20 c20 k20
  have b20 := F20.binds (ps := ["_law_tape", "_law_many"]) fun _ _ _ _ _ _ us hl => match us, hl with | [_, _], _ => rfl
  have F21 := fun_mk (st := s_law_any_order) l21 c21 k21
  have b21 := F21.binds (ps := ["_law_tape", "_law_many"]) fun _ _ _ _ _ _ us hl => match us, hl with | [_, _], _ => rfl
  have F22 := fun_mk (st := s_law_shape) l22 c22 k22
  have b22 := F22.binds (ps := ["_law_tape", "_law_leaves", "_law_cells"]) fun _ _ _ _ _ _ us hl => match us, hl with | [_, _, _], _ => rfl
  have F23 := fun_mk (st := s_law_spot) l23 c23 k23
  have b23 := F23.binds (ps := ["_law_tape", "_law_shape_here"]) fun _ _ _ _ _ _ us hl => match us, hl with | [_, _], _ => rfl
  have F24 := fun_mk (st := s_law_stand) l24 c24 k24
  have b24 := F24.binds (ps := ["_law_tape", "_law_shape_here"]) fun _ _ _ _ _ _ us hl => match us, hl with | [_, _], _ => rfl
  have F25 := fun_mk (st := s_law_a_deed) l25 c25 k25
  have b25 := F25.binds (ps := ["_law_tape", "_law_shape_here"]) fun _ _ _ _ _ _ us hl => match us, hl with | [_, _], _ => rfl
  have F26 := fun_mk (st := s_law_row) l26 c26 k26
  have b26 := F26.binds (ps := ["_law_tape", "_law_shape_here", "_law_most"]) fun _ _ _ _ _ _ us hl => match us, hl with | [_, _, _], _ => rfl
  have F27 := fun_mk (st := s_law_drop) l27 c27 k27
  have b27 := F27.binds (ps := ["_law_tape", "_law_shape_here", "_law_most"]) fun _ _ _ _ _ _ us hl => match us, hl with | [_, _, _], _ => rfl
  have F28 := fun_mk (st := s_law_named) l28 c28 k28
  have b28 := F28.binds (ps := ["_law_names", "_law_spot_here"]) fun _ _ _ _ _ _ us hl => match us, hl with | [_, _], _ => rfl
  have F29 := fun_mk (st := s_law_lying) l29 c29 k29
  have b29 := F29.binds (ps := ["_law_names", "_law_stand_here"]) fun _ _ _ _ _ _ us hl => match us, hl with | [_, _], _ => rfl
  have F30 := fun_mk (st := s_law_mirrored) l30 c30 k30
  have b30 := F30.binds (ps := ["_law_shape_here", "_law_stand_here"]) fun _ _ _ _ _ _ us hl => match us, hl with | [_, _], _ => rfl
  have F31 := fun_mk (st := s_law_mirrored_row) l31 c31 k31
  have b31 := F31.binds (ps := ["_law_shape_here", "_law_row_here"]) fun _ _ _ _ _ _ us hl => match us, hl with | [_, _], _ => rfl
  have F32 := fun_mk (st := s_law) l32 c32 k32
  refine ⟨PySem.W.fnOf "law" "law" (defArgs s_law) (defBody s_law) (defScope s_law) .none kV32 dc32 pm32 an32 cd32 ct32, fun s v => .of_eq rfl, fun base _ _ => ?_⟩
  have FI0 := fun_mk (st := si_TooMany) lI0 cI0 kI0
  have bI0 := FI0.binds (ps := ["self", "most"]) fun _ _ _ _ _ _ us hl => match us, hl with | [_, _], _ => rfl
  have O0 : OxD l.prog w K mg base "TooMany" C0 "most" := ⟨⟨⟨⟨_, _, _, _, _, _, _, _, _, _, _, _, _, _, _, xL0, rfl⟩, sa0, xC0, tC0, kC0⟩, ga0, gg0, no0, hd0, cl0, ca0, cn0, ct0, cm0⟩, PySem.W.mg_of X G aC0, exm_self xC0 cl0 tC0 te0, fI0, _, _, iC0, tI0, ini_TooMany (P := l.prog) (w := w) (base := base) FI0 (PySem.W.mg_of X G aB0) ⟨rB0, gB0⟩ vB0, bI0⟩
  have h_far_from_back := has_far_from_back (P := l.prog) (w := w) (base := base) T F0 (PySem.W.mg_of X G a0) b0 
  have h_touched := has_touched (P := l.prog) (w := w) (base := base) T F1 (PySem.W.mg_of X G a1) b1 h_far_from_back
  have h_pairs_at := has_pairs_at (P := l.prog) (w := w) (base := base) T F2 (PySem.W.mg_of X G a2) b2 h_touched
  have h_takes := has_takes (P := l.prog) (w := w) (base := base) T F3 (PySem.W.mg_of X G a3) b3 
  have h_ticks := has_ticks (P := l.prog) (w := w) (base := base) T F4 (PySem.W.mg_of X G a4) b4 h_takes
  have h_moved := has_moved (P := l.prog) (w := w) (base := base) T F5 (PySem.W.mg_of X G a5) b5 
  have h_presses := has_presses (P := l.prog) (w := w) (base := base) T F6 (PySem.W.mg_of X G a6) b6 h_pairs_at h_moved h_takes
  have h_put_on := has_put_on (P := l.prog) (w := w) (base := base) T F7 (PySem.W.mg_of X G a7) b7 
  have h_pressed := has_pressed (P := l.prog) (w := w) (base := base) T F8 (PySem.W.mg_of X G a8) b8 h_put_on
  have h_spread := has_spread (P := l.prog) (w := w) (base := base) T F9 (PySem.W.mg_of X G a9) b9 h_presses h_put_on h_pressed
  have h_marks := has_marks (P := l.prog) (w := w) (base := base) T F10 (PySem.W.mg_of X G a10) b10 h_spread
  have h_partner := has_partner (P := l.prog) (w := w) (base := base) T F11 (PySem.W.mg_of X G a11) b11 
  have h_roads := has_roads (P := l.prog) (w := w) (base := base) T F12 (PySem.W.mg_of X G a12) b12 h_presses h_partner
  have h_is_better := has_is_better (P := l.prog) (w := w) (base := base) T F13 (PySem.W.mg_of X G a13) b13 
  have h_best_road := has_best_road (P := l.prog) (w := w) (base := base) T F14 (PySem.W.mg_of X G a14) b14 h_roads h_presses h_partner h_is_better
  have h_road := has_road (P := l.prog) (w := w) (base := base) T F15 (PySem.W.mg_of X G a15) b15 h_best_road
  have h_last_tick := has_last_tick (P := l.prog) (w := w) (base := base) T F16 (PySem.W.mg_of X G a16) b16 h_ticks h_presses
  have h_all_deeds := has_all_deeds (P := l.prog) (w := w) (base := base) T F17 (PySem.W.mg_of X G a17) b17 
  have h_later := has_later (P := l.prog) (w := w) (base := base) T F18 (PySem.W.mg_of X G a18) b18 h_moved h_partner h_pairs_at
  have h_bring := has_bring (P := l.prog) (w := w) (base := base) T O0 F19 (PySem.W.mg_of X G a19) b19 kb19 h_all_deeds h_later
  have h_law_draw := has_law_draw (P := l.prog) (w := w) (base := base) T F20 (PySem.W.mg_of X G a20) b20 
  have h_law_any_order := has_law_any_order (P := l.prog) (w := w) (base := base) T F21 (PySem.W.mg_of X G a21) b21 h_law_draw
  have h_law_shape := has_law_shape (P := l.prog) (w := w) (base := base) T F22 (PySem.W.mg_of X G a22) b22 h_law_draw
  have h_law_spot := has_law_spot (P := l.prog) (w := w) (base := base) T F23 (PySem.W.mg_of X G a23) b23 h_law_draw
  have h_law_stand := has_law_stand (P := l.prog) (w := w) (base := base) T F24 (PySem.W.mg_of X G a24) b24 h_law_draw h_law_any_order
  have h_law_a_deed := has_law_a_deed (P := l.prog) (w := w) (base := base) T F25 (PySem.W.mg_of X G a25) b25 h_law_draw
  have h_law_row := has_law_row (P := l.prog) (w := w) (base := base) T F26 (PySem.W.mg_of X G a26) b26 h_law_draw h_law_a_deed
  have h_law_drop := has_law_drop (P := l.prog) (w := w) (base := base) T F27 (PySem.W.mg_of X G a27) b27 h_law_draw h_law_spot
  have h_law_named := has_law_named (P := l.prog) (w := w) (base := base) T F28 (PySem.W.mg_of X G a28) b28 
  have h_law_lying := has_law_lying (P := l.prog) (w := w) (base := base) T F29 (PySem.W.mg_of X G a29) b29 
  have h_law_mirrored := has_law_mirrored (P := l.prog) (w := w) (base := base) T F30 (PySem.W.mg_of X G a30) b30 
  have h_law_mirrored_row := has_law_mirrored_row (P := l.prog) (w := w) (base := base) T F31 (PySem.W.mg_of X G a31) b31 
  exact ok_law T F32 h_law_shape h_law_stand h_law_row h_law_draw h_law_drop h_ticks h_marks h_law_any_order h_law_named h_law_lying h_law_mirrored h_law_mirrored_row h_law_spot h_last_tick h_road h_bring
theorem walk {l : PySem.W.OpenLaw} {q : Program} {loose : List Str} {XP : (Str → Option Value) → Heap → Prop} {YP : World → Heap → Prop} {d : DefRec} {K : Params → PySem.W.Frag} (hn : l.most = some 63) (hdf : d.params.defaults = [])
    (hY : ∀ (w : World) (h : Heap), YP w h → (K w.params).In h)
    (F : ∀ (w : World) (mg : Str → Option Value) (fa : Addr) (h : Heap), (K w.params).In h → h.Ns mainGlobals mg → mg d.name = some (.ref fa) →
      ∃ fd : FuncData, (∀ (s : Shared) (u : Value), BindsTo s fd ⟨[u], []⟩ [("_law_script", u)]) ∧ ∀ base : Heap, (K w.params).In base → base.Ns mainGlobals mg → FnOk l.prog w (K w.params) mg base CX0 8 fa fd ["_law_script"] (spLaw (K w.params))) :
    PySem.W.WalkO q loose XP YP l.row.toRowW d [] (fun f vs => PySem.call f vs) :=
  L2.walk_of (n := 63) (k := 8) (x := "_law_script") (CX := fun _ => CX0) (sp := fun w => spLaw (K w.params)) hn (by decide) hdf ⟨rfl, by decide, by decide⟩ hY F (fun _ _ a ns hl _ hS => ⟨a, ns, rfl, hS, hl, fun _ => rfl⟩) fun _ _ _ _ _ z => z
end BB
open PySem PySem.W PyProof.Rows
set_option maxRecDepth 100000 in
set_option maxHeartbeats 0 in
theorem PySem.Challenge.cw_blotbook_k13_whole_books_seen_otherwise_holds : PySem.Challenge.rw_blotbook_k13_whole_books_seen_otherwise.Holds := by
  w_on; o_law; k_head; (case hw => w_witness2)
  k_fill
  refine BB.walk (l := PySem.Challenge.rw_blotbook_k13_whole_books_seen_otherwise) rfl rfl (fun w h Y => PySem.W.kIn_of Y) ?F
  case F =>
    intro w mg fa h KX G hmg
    refine' BB.all_mk KX G hmg ?a0 ?l0 ?c0 ?k0 ?a1 ?l1 ?c1 ?k1 ?a2 ?l2 ?c2 ?k2 ?a3 ?l3 ?c3 ?k3 ?a4 ?l4 ?c4 ?k4 ?a5 ?l5 ?c5 ?k5 ?a6 ?l6 ?c6 ?k6 ?a7 ?l7 ?c7 ?k7 ?a8 ?l8 ?c8 ?k8 ?a9 ?l9 ?c9 ?k9 ?a10 ?l10 ?c10 ?k10 ?a11 ?l11 ?c11 ?k11 ?a12 ?l12 ?c12 ?k12 ?a13 ?l13 ?c13 ?k13 ?a14 ?l14 ?c14 ?k14 ?a15 ?l15 ?c15 ?k15 ?a16 ?l16 ?c16 ?k16 ?a17 ?l17 ?c17 ?k17 ?a18 ?l18 ?c18 ?k18 ?a19 ?l19 ?c19 ?k19 ?w19 ?a20 ?l20 ?c20 ?k20 ?a21 ?l21 ?c21 ?k21 ?a22 ?l22 ?c22 ?k22 ?a23 ?l23 ?c23 ?k23 ?a24 ?l24 ?c24 ?k24 ?a25 ?l25 ?c25 ?k25 ?a26 ?l26 ?c26 ?k26 ?a27 ?l27 ?c27 ?k27 ?a28 ?l28 ?c28 ?k28 ?a29 ?l29 ?c29 ?k29 ?a30 ?l30 ?c30 ?k30 ?a31 ?l31 ?c31 ?k31 ?a32 ?l32 ?c32 ?k32 ?aC0 ?aB0 ?xL0 ?sa0 ?xC0 ?tC0 ?kC0 ?ga0 ?gg0 ?no0 ?hd0 ?cl0 ?ca0 ?cn0 ?ct0 ?cm0 ?te0 ?iC0 ?tI0 ?lI0 ?cI0 ?kI0 ?rB0 ?gB0 ?vB0 ?iB0 ?tB0 ?kB0 ?z_len ?z_range ?z_sum ?z_enumerate ?z_min ?z_max ?z_sorted ?z_dict ?z_list ?z_tuple ?q_MOST
    (case a0 => k_is)
    (case l0 => k_is)
    (case c0 => k_is)
    (case k0 => k_is)
    (case a1 => k_is)
    (case l1 => k_is)
    (case c1 => k_is)
    (case k1 => k_is)
    (case a2 => k_is)
    (case l2 => k_is)
    (case c2 => k_is)
    (case k2 => k_is)
    (case a3 => k_is)
    (case l3 => k_is)
    (case c3 => k_is)
    (case k3 => k_is)
    (case a4 => k_is)
    (case l4 => k_is)
    (case c4 => k_is)
    (case k4 => k_is)
    (case a5 => k_is)
    (case l5 => k_is)
    (case c5 => k_is)
    (case k5 => k_is)
    (case a6 => k_is)
    (case l6 => k_is)
    (case c6 => k_is)
    (case k6 => k_is)
    (case a7 => k_is)
    (case l7 => k_is)
    (case c7 => k_is)
    (case k7 => k_is)
    (case a8 => k_is)
    (case l8 => k_is)
    (case c8 => k_is)
    (case k8 => k_is)
    (case a9 => k_is)
    (case l9 => k_is)
    (case c9 => k_is)
    (case k9 => k_is)
    (case a10 => k_is)
    (case l10 => k_is)
    (case c10 => k_is)
    (case k10 => k_is)
    (case a11 => k_is)
    (case l11 => k_is)
    (case c11 => k_is)
    (case k11 => k_is)
    (case a12 => k_is)
    (case l12 => k_is)
    (case c12 => k_is)
    (case k12 => k_is)
    (case a13 => k_is)
    (case l13 => k_is)
    (case c13 => k_is)
    (case k13 => k_is)
    (case a14 => k_is)
    (case l14 => k_is)
    (case c14 => k_is)
    (case k14 => k_is)
    (case a15 => k_is)
    (case l15 => k_is)
    (case c15 => k_is)
    (case k15 => k_is)
    (case a16 => k_is)
    (case l16 => k_is)
    (case c16 => k_is)
    (case k16 => k_is)
    (case a17 => k_is)
    (case l17 => k_is)
    (case c17 => k_is)
    (case k17 => k_is)
    (case a18 => k_is)
    (case l18 => k_is)
    (case c18 => k_is)
    (case k18 => k_is)
    (case a19 => k_is)
    (case l19 => k_is)
    (case c19 => k_is)
    (case k19 => k_is)
    (case w19 => k_is)
    (case a20 => k_is)
    (case l20 => k_is)
    (case c20 => k_is)
    (case k20 => k_is)
    (case a21 => k_is)
    (case l21 => k_is)
    (case c21 => k_is)
    (case k21 => k_is)
    (case a22 => k_is)
    (case l22 => k_is)
    (case c22 => k_is)
    (case k22 => k_is)
    (case a23 => k_is)
    (case l23 => k_is)
    (case c23 => k_is)
    (case k23 => k_is)
    (case a24 => k_is)
    (case l24 => k_is)
    (case c24 => k_is)
    (case k24 => k_is)
    (case a25 => k_is)
    (case l25 => k_is)
    (case c25 => k_is)
    (case k25 => k_is)
    (case a26 => k_is)
    (case l26 => k_is)
    (case c26 => k_is)
    (case k26 => k_is)
    (case a27 => k_is)
    (case l27 => k_is)
    (case c27 => k_is)
    (case k27 => k_is)
    (case a28 => k_is)
    (case l28 => k_is)
    (case c28 => k_is)
    (case k28 => k_is)
    (case a29 => k_is)
    (case l29 => k_is)
    (case c29 => k_is)
    (case k29 => k_is)
    (case a30 => k_is)
    (case l30 => k_is)
    (case c30 => k_is)
    (case k30 => k_is)
    (case a31 => k_is)
    (case l31 => k_is)
    (case c31 => k_is)
    (case k31 => k_is)
    (case a32 => k_is)
    (case l32 => k_is)
    (case c32 => k_is)
    (case k32 => k_is)
    (case aC0 => k_is)
    (case aB0 => k_is)
    (case xL0 => k_is)
    (case sa0 => k_is)
    (case xC0 => k_is)
    (case tC0 => k_is)
    (case kC0 => k_is)
    (case ga0 => k_is)
    (case gg0 => k_is)
    (case no0 => k_is)
    (case hd0 => k_is)
    (case cl0 => k_is)
    (case ca0 => k_is)
    (case cn0 => k_is)
    (case ct0 => k_is)
    (case cm0 => k_is)
    (case te0 => first | rfl | k_is)
    (case iC0 => k_is)
    (case tI0 => k_is)
    (case lI0 => k_is)
    (case cI0 => k_is)
    (case kI0 => k_is)
    (case rB0 => k_is)
    (case gB0 => k_is)
    (case vB0 => k_is)
    (case iB0 => k_is)
    (case tB0 => k_is)
    (case kB0 => k_is)
    (case z_len => k_is)
    (case z_range => k_is)
    (case z_sum => k_is)
    (case z_enumerate => k_is)
    (case z_min => k_is)
    (case z_max => k_is)
    (case z_sorted => k_is)
    (case z_dict => k_is)
    (case z_list => k_is)
    (case z_tuple => k_is)
    (case q_MOST => k_is)
#print axioms PySem.Challenge.cw_blotbook_k13_whole_books_seen_otherwise_holds
