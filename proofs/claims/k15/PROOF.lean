import PyProof.Rows.All
import Wide.All
import OpenK.AllK
import Wide.FinOn
import PySem.Challenge.RW_overlook_k15_whole_three_things
import HandS.ForMost
import HandS.TupAny
import HandS.Star
import HandS.Deep
import HandS.IsInst
import KE.SortData
import HandS.Text
import HandS.Zip
import HandS.Strs
import HandS.Conv
import HandS.NoneIn
import HandS.Comp
import HandS.Iter
import KE.GoesEnum
import HandS.Style
import HandS.Flow
import HandS.ForExc
import PyProof.ReprReads
import PyProof.ReprHeads
import HandS.Ends
import HandS.DictComp
import HandS.DictTup
import HandS.GenOver
import PyProof.GenRules
import PyProof.GenQ
import HandS.GenList
import HandS.GenCall
import HandS.Defaults
import HandS.MakeKwOnly
import HandS.ExcOwn
import PyProof.ReprLen
import PyProof.FitsInt
set_option Elab.async false
set_option linter.all false
set_option maxRecDepth 100000
set_option maxHeartbeats 2000000
/-! DA: data with a store, states, what a value stands for, how states grow; readings by evaluators. -/
namespace DL
open PySem PySem.Spec PyProof.Rows L2

/-- a reference into the store -/
abbrev rf (n : Nat) : PyData := .dict [(.list [], .int n)]
/-- what is known besides: lists that nobody changes any more; where the store's objects stand -/
structure Wd where
  F : Addr → Prop
  L : List Addr
/-- a local name: nothing, data, a list of one's own -/
inductive Slot where
  | non | val (d : PyData) | own (l : List PyData)
inductive So where
  | lst (l : List PyData)
structure Sta where
  r : List Slot
  s : List So
inductive Rs (α : Type) where
  | ok (a : α) (st : Sta) | ex (c : Nat) (st : Sta) | bad
def Rs.bind {α β : Type} (x : Rs α) (g : α → Sta → Rs β) : Rs β := match x with
  | .ok a st => g a st
  | .ex c st => .ex c st
  | .bad => .bad
@[simp] theorem Rs.bind_ok {α β : Type} (a : α) (st : Sta) (g : α → Sta → Rs β) : (Rs.ok a st).bind g = g a st := rfl
@[simp] theorem Rs.bind_ex {α β : Type} (c : Nat) (st : Sta) (g : α → Sta → Rs β) : (Rs.ex c st : Rs α).bind g = .ex c st := rfl
@[simp] theorem Rs.bind_bad {α β : Type} (g : α → Sta → Rs β) : (Rs.bad : Rs α).bind g = .bad := rfl
abbrev ED := Sta → Rs PyData
abbrev ET := Sta → Rs Bool
abbrev EL := Sta → Rs (List PyData)
inductive Ou where
  | nx (st : Sta) | rt (d : PyData) (st : Sta) | bk (st : Sta) | ct (st : Sta) | ex (c : Nat) (st : Sta) | bad
abbrev SD := Sta → Ou

/-- a tuple whose one object is known: of the class itself, without a dict -/
def TupR (H : Hp) (a : Addr) (xs : List V) : Prop := ∃ o : Obj, H a = some (.frz o (.tup xs)) ∧ o.cls = .type "tuple" ∧ o.dict = none
theorem TupR.sq {K : PySem.W.Frag} {H : Hp} {a : Addr} {xs : List V} (h : TupR H a xs) : SqT K H a xs := let ⟨o, h, _⟩ := h; .inl (.inr ⟨o, h⟩)
theorem TupR.new {H : Hp} {a : Addr} {xs : List V} {o : Obj} (hc : o.cls = .type "tuple") (hd : o.dict = none) : TupR (upd H a (.frz o (.tup xs))) a xs := ⟨o, upd_same, hc, hd⟩
/-- .. of numbers -/
def TupK (H : Hp) (a : Addr) (ks : List Int) : Prop := TupR H a (ks.map V.int) ∧ ks.length ≤ sizeLine
def FrL (W : Wd) (H : Hp) (a : Addr) (xs : List V) : Prop := (W.F a ∧ H a = some (.lst xs)) ∨ ∃ o, H a = some (.frz o (.lst xs))
/-- the script: a list known to its object, or one of the module's -/
def SqS (K : PySem.W.Frag) (H : Hp) (a : Addr) (xs : List V) : Prop := (∃ o, H a = some (.frz o (.lst xs))) ∨
    ∃ (o : Obj) (its : Array Value) (n : Nat), K.lookup a = some o ∧ o.cls = .type "list" ∧ o.dict = none ∧ o.data = .seq its n ∧ its.size ≤ sizeLine ∧ Vals xs its.toList
theorem SqS.sq {K : PySem.W.Frag} {H : Hp} {a : Addr} {xs : List V} (h : SqS K H a xs) : SqL K H a xs := h.elim (fun ⟨o, h⟩ => .inl (.inr ⟨o, h⟩)) .inr
abbrev scr (ns : List Int) : PyData := .dict [(.list [], .list (ns.map PyData.int))]
/-- a dict whose keys are tuples of numbers: an entry; its object; how it is written as data -/
def dEnt (x : List Int × Addr × Value) : DictEntry := ⟨reduceHash (Builtin.Tuple.tupleHashOf (x.1.map hashInt)), .ref x.2.1, x.2.2⟩
def DRaw (a : Addr) (xs : List (List Int × Addr × Value)) (h : Heap) : Prop := ∃ o es ep, h.get? a = some o ∧ o.ExactDict ∧ o.data = .dict es ep ∧ es.toList = xs.map dEnt ∧ (xs.map (·.1)).Nodup ∧ (a == sysModules) = false
abbrev tupZ (l : List Int) : PyData := .tuple (l.map .int)
abbrev dcD (ks ds : List PyData) : PyData := .dict [(.list [.list ks], .list ds)]
mutual
inductive IsD (K : PySem.W.Frag) (W : Wd) (H : Hp) : V → PyData → Prop
  | non : IsD K W H .non .none
  | bl (b : Bool) : IsD K W H (.bl b) (.bool b)
  | int (i : Int) : IsD K W H (.int i) (.int i)
  | str (x : Str) : IsD K W H (.str x) (.str x)
  | lst {a : Addr} {xs : List V} {ds : List PyData} : FrL W H a xs → ds.length ≤ sizeLine → IsDs K W H xs ds → IsD K W H (.ref a) (.list ds)
  | tup {a : Addr} {xs : List V} {ds : List PyData} : TupR H a xs → ds.length ≤ sizeLine → IsDs K W H xs ds → IsD K W H (.ref a) (.tuple ds)
  | rf {a : Addr} {n : Nat} : W.L[n]? = some a → IsD K W H (.ref a) (.dict [(.list [], .int n)])
  | scr {a : Addr} {ns : List Int} : SqS K H a (ns.map V.int) → ns.length ≤ sizeLine → IsD K W H (.ref a) (.dict [(.list [], .list (ns.map PyData.int))])
  | dct {a : Addr} {o : Obj} {xs : List (List Int × Addr × Value)} {vs : List V} {kd ds : List PyData} : kd = xs.map (fun x => tupZ x.1) → H a = some (.frz o (.ext (DRaw a xs))) → (∀ x ∈ xs, TupK H x.2.1 x.1) → Paired (fun v (x : List Int × Addr × Value) => RelV v x.2.2) vs xs → ds.length ≤ sizeLine → IsDs K W H vs ds →
      IsD K W H (.ref a) (.dict [(.list [.list kd], .list ds)])
inductive IsDs (K : PySem.W.Frag) (W : Wd) (H : Hp) : List V → List PyData → Prop
  | nil : IsDs K W H [] []
  | cons {v : V} {vs : List V} {d : PyData} {ds : List PyData} : IsD K W H v d → IsDs K W H vs ds → IsDs K W H (v :: vs) (d :: ds)
end
/-- later -/
structure Lat (W : Wd) (H : Hp) (W' : Wd) (H' : Hp) : Prop where
  f : ∀ a, W.F a → W'.F a
  l : ∀ (n : Nat) (a : Addr), W.L[n]? = some a → W'.L[n]? = some a
  fz : ∀ (a : Addr) (o : HO), W.F a → H a = some o → H' a = some o
  tp : ∀ a xs, H a = some (.tup xs) → H' a = some (.tup xs)
  fr : ∀ a o u, H a = some (.frz o u) → (∀ m, u ≠ .own m) → H' a = some (.frz o u)
theorem Lat.refl (W : Wd) (H : Hp) : Lat W H W H := ⟨fun _ h => h, fun _ _ h => h, fun _ _ _ h => h, fun _ _ h => h, fun _ _ _ h _ => h⟩
theorem Lat.trans {W W1 W2 : Wd} {H H1 H2 : Hp} (a : Lat W H W1 H1) (b : Lat W1 H1 W2 H2) : Lat W H W2 H2 :=
  ⟨fun x h => b.f x (a.f x h), fun n x h => b.l n x (a.l n x h), fun x o h e => b.fz x o (a.f x h) (a.fz x o h e), fun x xs h => b.tp x xs (a.tp x xs h), fun x o u h n => b.fr x o u (a.fr x o u h n) n⟩
section
variable {K : PySem.W.Frag} {W W' W1 W2 : Wd} {H H' H1 H2 : Hp}
theorem SqT.lat {a : Addr} {xs : List V} (e : Lat W H W' H') (h : SqT K H a xs) : SqT K H' a xs := by
  rcases h with (h | ⟨o, h⟩) | h
  · exact .inl (.inl (e.tp _ _ h))
  · exact .inl (.inr ⟨o, e.fr _ _ _ h (fun _ z => nomatch z)⟩)
  · exact .inr h
theorem TupR.lat {a : Addr} {xs : List V} (e : Lat W H W' H') (h : TupR H a xs) : TupR H' a xs := let ⟨o, h, c, d⟩ := h; ⟨o, e.fr _ _ _ h (fun _ z => nomatch z), c, d⟩
theorem TupK.lat {a : Addr} {ks : List Int} (e : Lat W H W' H') (h : TupK H a ks) : TupK H' a ks := ⟨h.1.lat e, h.2⟩
theorem FrL.lat {a : Addr} {xs : List V} (e : Lat W H W' H') (h : FrL W H a xs) : FrL W' H' a xs := by
  rcases h with ⟨f, h⟩ | ⟨o, h⟩
  · exact .inl ⟨e.f _ f, e.fz _ _ f h⟩
  · exact .inr ⟨o, e.fr _ _ _ h (fun _ z => nomatch z)⟩
theorem FrL.sq {a : Addr} {xs : List V} (h : FrL W H a xs) : SqL K H a xs := by
  rcases h with ⟨_, h⟩ | ⟨o, h⟩
  · exact .inl (.inl h)
  · exact .inl (.inr ⟨o, h⟩)
mutual
theorem IsD.lat (e : Lat W H W' H') : ∀ {d : PyData} {v : V}, IsD K W H v d → IsD K W' H' v d
  | _, _, .non => .non
  | _, _, .bl b => .bl b
  | _, _, .int i => .int i
  | _, _, .str x => .str x
  | _, _, .lst f z hs => .lst (f.lat e) z (IsDs.lat e hs)
  | _, _, .tup f z hs => .tup (f.lat e) z (IsDs.lat e hs)
  | _, _, .rf f => .rf (e.l _ _ f)
  | _, _, .scr f z => .scr (f.imp (fun ⟨o, q⟩ => ⟨o, e.fr _ _ _ q (fun _ z => nomatch z)⟩) id) z
  | _, _, .dct hk hd ht hv z hs => .dct hk (e.fr _ _ _ hd (fun _ z => nomatch z)) (fun x hx => (ht x hx).lat e) hv z (IsDs.lat e hs)
theorem IsDs.lat (e : Lat W H W' H') : ∀ {ds : List PyData} {vs : List V}, IsDs K W H vs ds → IsDs K W' H' vs ds
  | _, _, .nil => .nil
  | _, _, .cons h hs => .cons (IsD.lat e h) (IsDs.lat e hs)
end
theorem IsDs.length : ∀ {vs : List V} {ds : List PyData}, IsDs K W H vs ds → vs.length = ds.length
  | _, _, .nil => rfl
  | _, _, .cons _ h => congrArg (· + 1) h.length
theorem IsDs.get : ∀ {vs : List V} {ds : List PyData} {i : Nat} {d : PyData}, IsDs K W H vs ds → ds[i]? = some d → ∃ v, vs[i]? = some v ∧ IsD K W H v d
  | _, _, _, _, .nil, e => by simp at e
  | _, _, 0, _, .cons h _, e => by simp at e; subst e; exact ⟨_, rfl, h⟩
  | _, _, i + 1, d, .cons _ h, e => by
    obtain ⟨v, h1, h2⟩ := IsDs.get (i := i) (d := d) h (by simpa using e)
    exact ⟨v, by simpa using h1, h2⟩
theorem IsDs.append : ∀ {vs us : List V} {ds es : List PyData}, IsDs K W H vs ds → IsDs K W H us es → IsDs K W H (vs ++ us) (ds ++ es)
  | _, _, _, _, .nil, h => h
  | _, _, _, _, .cons h t, h' => .cons h (t.append h')
theorem IsDs.drop : ∀ {vs : List V} {ds : List PyData} (n : Nat), IsDs K W H vs ds → IsDs K W H (vs.drop n) (ds.drop n)
  | _, _, 0, h => h
  | _, _, _ + 1, .nil => .nil
  | _, _, n + 1, .cons _ h => h.drop n
theorem IsDs.take : ∀ {vs : List V} {ds : List PyData} (n : Nat), IsDs K W H vs ds → IsDs K W H (vs.take n) (ds.take n)
  | _, _, 0, _ => .nil
  | _, _, _ + 1, .nil => .nil
  | _, _, n + 1, .cons h t => .cons h (t.take n)
theorem IsDs.set : ∀ {vs : List V} {ds : List PyData} {v : V} {d : PyData} (n : Nat), IsD K W H v d → IsDs K W H vs ds → IsDs K W H (vs.set n v) (ds.set n d)
  | _, _, _, _, _, _, .nil => .nil
  | _, _, _, _, 0, h, .cons _ t => .cons h t
  | _, _, _, _, n + 1, h, .cons q t => .cons q (IsDs.set n h t)
theorem IsDs.erase : ∀ {vs : List V} {ds : List PyData} (n : Nat), IsDs K W H vs ds → IsDs K W H (vs.eraseIdx n) (ds.eraseIdx n)
  | _, _, _, .nil => .nil
  | _, _, 0, .cons _ t => t
  | _, _, n + 1, .cons q t => .cons q (IsDs.erase n t)
theorem IsDs.mapInt : ∀ (ns : List Int), IsDs K W H (ns.map V.int) (ns.map PyData.int)
  | [] => .nil
  | n :: ns => .cons (.int n) (IsDs.mapInt ns)
end

/-- an address that a local name has for its own -/
def Own (σ : L2.St) (r : List Slot) (a : Addr) : Prop := ∃ (i : Nat) (l : List PyData), r[i]? = some (.own l) ∧ σ[i]? = some (some (.ref a))
def SoR (K : PySem.W.Frag) (W : Wd) (H : Hp) (a : Addr) : So → Prop
  | .lst l => ∃ xs, H a = some (.lst xs) ∧ IsDs K W H xs l ∧ l.length ≤ sizeLine
structure Rel (K : PySem.W.Frag) (W : Wd) (H : Hp) (σ : L2.St) (st : Sta) : Prop where
  val : ∀ (i : Nat) (d : PyData), st.r[i]? = some (.val d) → ∃ v, σ[i]? = some (some v) ∧ IsD K W H v d
  own : ∀ (i : Nat) (l : List PyData), st.r[i]? = some (.own l) → ∃ a xs, σ[i]? = some (some (.ref a)) ∧ H a = some (.lst xs) ∧ IsDs K W H xs l ∧ ¬ W.F a ∧ a ∉ W.L ∧ l.length ≤ sizeLine
  dj : ∀ (i j : Nat) (l l' : List PyData) (a : Addr), st.r[i]? = some (.own l) → st.r[j]? = some (.own l') → σ[i]? = some (some (.ref a)) → σ[j]? = some (some (.ref a)) → i = j
  len : σ.length = st.r.length
  sl : W.L.length = st.s.length
  nd : W.L.Nodup
  sto : ∀ (n : Nat) (a : Addr) (o : So), W.L[n]? = some a → st.s[n]? = some o → SoR K W H a o
  fok : ∀ a, W.F a → ∃ xs, H a = some (.lst xs)
  lf : ∀ a ∈ W.L, ¬ W.F a
structure Ext (W : Wd) (H : Hp) (σ : L2.St) (r : List Slot) (W' : Wd) (H' : Hp) (σ' : L2.St) (r' : List Slot) : Prop where
  f : ∀ a, W.F a → W'.F a
  fn : ∀ a, W'.F a → W.F a ∨ H a = none ∨ Own σ r a
  l : ∃ more, W'.L = W.L ++ more ∧ ∀ a ∈ more, H a = none
  keep : ∀ a o, H a = some o → a ∉ W.L → ¬ Own σ r a → H' a = some o
  dom : ∀ a, H a ≠ none → H' a ≠ none
  on : ∀ a, Own σ' r' a → Own σ r a ∨ H a = none
section
variable {K : PySem.W.Frag} {W W' W1 W2 : Wd} {H H' H1 H2 : Hp} {σ σ1 σ2 : L2.St} {r r1 r2 : List Slot}
theorem Ext.refl : Ext W H σ r W H σ r := ⟨fun _ h => h, fun _ h => .inl h, ⟨[], by simp, fun _ h => nomatch h⟩, fun _ _ h _ _ => h, fun _ h => h, fun _ h => .inl h⟩
theorem Ext.trans (a : Ext W H σ r W1 H1 σ1 r1) (b : Ext W1 H1 σ1 r1 W2 H2 σ2 r2) : Ext W H σ r W2 H2 σ2 r2 := by
  have back : ∀ x, H1 x = none → H x = none := fun x h => by
    cases e : H x with
    | none => rfl
    | some o => exact absurd h (a.dom x (by rw [e]; simp))
  obtain ⟨m1, e1, n1⟩ := a.l
  obtain ⟨m2, e2, n2⟩ := b.l
  refine ⟨fun x h => b.f x (a.f x h), fun x h => ?_, ⟨m1 ++ m2, by rw [e2, e1, List.append_assoc], fun x hx => ?_⟩, fun x o h hl ho => ?_, fun x h => b.dom x (a.dom x h), fun x h => ?_⟩
  · rcases b.fn x h with h | h | h
    · exact a.fn x h
    · exact .inr (.inl (back x h))
    · rcases a.on x h with h | h
      · exact .inr (.inr h)
      · exact .inr (.inl h)
  · rcases List.mem_append.mp hx with hx | hx
    · exact n1 x hx
    · exact back x (n2 x hx)
  · refine b.keep x o (a.keep x o h hl ho) ?_ ?_
    · rw [e1]
      intro hm
      rcases List.mem_append.mp hm with hm | hm
      · exact hl hm
      · rw [n1 x hm] at h; cases h
    · intro hm
      rcases a.on x hm with q | q
      · exact ho q
      · rw [q] at h; cases h
  · rcases b.on x h with h | h
    · exact a.on x h
    · exact .inr (back x h)
variable {st st1 : Sta}
theorem Rel.notL (R : Rel K W H σ st) {a : Addr} (h : ∀ xs, H a ≠ some (.lst xs)) : a ∉ W.L := fun hm => by
  obtain ⟨n, hn, e⟩ := List.mem_iff_getElem.mp hm
  have e1 : W.L[n]? = some a := by rw [List.getElem?_eq_getElem hn, e]
  have hn2 : n < st.s.length := by rw [← R.sl]; exact hn
  have e2 : st.s[n]? = some st.s[n] := List.getElem?_eq_getElem hn2
  have q := R.sto n a _ e1 e2
  cases e3 : st.s[n] with
  | lst l =>
    rw [e3] at q
    obtain ⟨xs, q, _⟩ := q
    exact h xs q
theorem Rel.notOwn (R : Rel K W H σ st) {a : Addr} (h : ∀ xs, H a ≠ some (.lst xs)) : ¬ Own σ st.r a := fun ⟨i, l, e1, e2⟩ => by
  obtain ⟨b, xs, e3, e4, _⟩ := R.own i l e1
  rw [e2] at e3
  cases e3
  exact h xs e4
theorem Rel.ownF (R : Rel K W H σ st) {a : Addr} (h : Own σ st.r a) : ¬ W.F a ∧ a ∉ W.L ∧ ∃ xs, H a = some (.lst xs) := by
  obtain ⟨i, l, e1, e2⟩ := h
  obtain ⟨b, xs, e3, e4, _, e5, e6, _⟩ := R.own i l e1
  rw [e2] at e3
  cases e3
  exact ⟨e5, e6, xs, e4⟩
theorem Rel.lat (R : Rel K W H σ st) (E : Ext W H σ st.r W1 H1 σ1 r1) : Lat W H W1 H1 := by
  refine ⟨E.f, fun n a h => ?_, fun a o h e => ?_, fun a xs h => ?_, fun a o u h _ => ?_⟩
  · obtain ⟨m, e, _⟩ := E.l
    rw [e, List.getElem?_append_left (List.getElem?_eq_some_iff.mp h).1]
    exact h
  · exact E.keep a o e (fun hm => R.lf a hm h) fun ho => (R.ownF ho).1 h
  · exact E.keep a _ h (R.notL fun xs q => by rw [h] at q; cases q) (R.notOwn fun xs q => by rw [h] at q; cases q)
  · exact E.keep a _ h (R.notL fun xs q => by rw [h] at q; cases q) (R.notOwn fun xs q => by rw [h] at q; cases q)

/-- only new things -/
structure Grow (W : Wd) (H : Hp) (W' : Wd) (H' : Hp) : Prop where
  h : ∀ a o, H a = some o → H' a = some o
  f : ∀ a, W.F a → W'.F a
  fn : ∀ a, W'.F a → W.F a ∨ H a = none
  fo : ∀ a, W'.F a → ∃ xs, H' a = some (.lst xs)
  l : W'.L = W.L
theorem Grow.refl (R : Rel K W H σ st) : Grow W H W H := ⟨fun _ _ h => h, fun _ h => h, fun _ h => .inl h, R.fok, rfl⟩
theorem Grow.back (g : Grow W H W' H') {a : Addr} (h : H' a = none) : H a = none := by
  cases e : H a with
  | none => rfl
  | some o => rw [g.h a o e] at h; cases h
theorem Grow.trans (a : Grow W H W1 H1) (b : Grow W1 H1 W2 H2) : Grow W H W2 H2 := by
  refine ⟨fun x o h => b.h x o (a.h x o h), fun x h => b.f x (a.f x h), fun x h => ?_, b.fo, b.l.trans a.l⟩
  rcases b.fn x h with h | h
  · exact a.fn x h
  · exact .inr (a.back h)
theorem Grow.lat (g : Grow W H W' H') : Lat W H W' H' := ⟨g.f, fun n a h => by rw [g.l]; exact h, fun a o _ e => g.h a o e, fun a _ h => g.h a _ h, fun a _ _ h _ => g.h a _ h⟩
theorem Grow.ext (g : Grow W H W' H') : Ext W H σ r W' H' σ r :=
  ⟨g.f, fun a h => (g.fn a h).imp id .inl, ⟨[], by simp [g.l], fun _ h => nomatch h⟩, fun a o h _ _ => g.h a o h, fun a h => by
    cases e : H a with
    | none => exact absurd e h
    | some o => rw [g.h a o e]; simp, fun _ h => .inl h⟩
theorem Grow.rel (g : Grow W H W' H') (R : Rel K W H σ st) : Rel K W' H' σ st := by
  refine ⟨fun i d h => ?_, fun i l h => ?_, R.dj, R.len, by rw [g.l]; exact R.sl, by rw [g.l]; exact R.nd, fun n a o h e => ?_, g.fo, fun a ha h => ?_⟩
  · obtain ⟨v, e, q⟩ := R.val i d h
    exact ⟨v, e, q.lat g.lat⟩
  · obtain ⟨a, xs, e1, e2, e3, e4, e5, e6⟩ := R.own i l h
    refine ⟨a, xs, e1, g.h _ _ e2, e3.lat g.lat, fun q => ?_, by rw [g.l]; exact e5, e6⟩
    rcases g.fn a q with q | q
    · exact e4 q
    · rw [q] at e2; cases e2
  · rw [g.l] at h
    have q := R.sto n a o h e
    cases o with
    | lst l =>
      obtain ⟨xs, q1, q2, q3⟩ := q
      exact ⟨xs, g.h _ _ q1, q2.lat g.lat, q3⟩
  · rw [g.l] at ha
    rcases g.fn a h with q | q
    · exact R.lf a ha q
    · obtain ⟨n, hn, e⟩ := List.mem_iff_getElem.mp ha
      have e1 : W.L[n]? = some a := by rw [List.getElem?_eq_getElem hn, e]
      have hn2 : n < st.s.length := by rw [← R.sl]; exact hn
      have z := R.sto n a _ e1 (List.getElem?_eq_getElem hn2)
      cases e3 : st.s[n] with
      | lst l =>
        rw [e3] at z
        obtain ⟨xs, z, _⟩ := z
        rw [q] at z; cases z
/-- a new object, not a list -/
theorem Grow.new {p : Addr} {o : HO} (R : Rel K W H σ st) (hp : H p = none) : Grow W H W (upd H p o) :=
  ⟨fun a u h => by rw [upd_ne (ne_of_none h hp)]; exact h, fun _ h => h, fun _ h => .inl h, fun a h => by
    obtain ⟨xs, e⟩ := R.fok a h
    exact ⟨xs, by rw [upd_ne (ne_of_none e hp)]; exact e⟩, rfl⟩
/-- a new list, never to be changed -/
theorem Grow.newF {p : Addr} {xs : List V} (R : Rel K W H σ st) (hp : H p = none) : Grow W H ⟨fun a => W.F a ∨ a = p, W.L⟩ (upd H p (.lst xs)) :=
  ⟨fun a u h => by rw [upd_ne (ne_of_none h hp)]; exact h, fun _ h => .inl h, fun a h => h.imp id fun e => by rw [e]; exact hp, fun a h => by
    rcases h with h | h
    · obtain ⟨ys, e⟩ := R.fok a h
      exact ⟨ys, by rw [upd_ne (ne_of_none e hp)]; exact e⟩
    · rw [h]; exact ⟨xs, upd_same⟩, rfl⟩
end

/-! ### readings -/
/-- what is wanted of an exception: its class's number, the slots, the heap -/
abbrev EX := Nat → L2.St → Hp → Prop
def Res (K : PySem.W.Frag) (E : EX) (σ : L2.St) (W : Wd) (H : Hp) (r : List Slot) {α : Type} (x : Rs α) (C : α → Sta → Wd → Hp → Prop) : Prop :=
  match x with
  | .ok a st' => ∀ W' H', Rel K W' H' σ st' → Ext W H σ r W' H' σ st'.r → C a st' W' H'
  | .ex c st' => ∀ W' H', Rel K W' H' σ st' → Ext W H σ r W' H' σ st'.r → E c σ H'
  | .bad => False
def tD (K : PySem.W.Frag) (E : EX) (f : ED) : TE := fun σ H Q => ∃ W st, Rel K W H σ st ∧ Res K E σ W H st.r (f st) fun d _ W' H' => ∀ v, IsD K W' H' v d → Q v H'
def tT (K : PySem.W.Frag) (E : EX) (f : ET) : TT := fun σ H Q => ∃ W st, Rel K W H σ st ∧ Res K E σ W H st.r (f st) fun b _ _ H' => Q b H'
def tL (K : PySem.W.Frag) (E : EX) (f : EL) : TA := fun σ H Q => ∃ W st, Rel K W H σ st ∧ Res K E σ W H st.r (f st) fun ds _ W' H' => ∀ vs, IsDs K W' H' vs ds → Q vs H'
/-- a new list that nobody else holds -/
structure Fre (K : PySem.W.Frag) (W : Wd) (H : Hp) (σ : L2.St) (r : List Slot) (p : Addr) (ds : List PyData) : Prop where
  at_ : ∃ xs, H p = some (.lst xs) ∧ IsDs K W H xs ds
  z : ds.length ≤ sizeLine
  f : ¬ W.F p
  l : p ∉ W.L
  o : ¬ Own σ r p
def tN (K : PySem.W.Frag) (E : EX) (f : EL) : TE := fun σ H Q => ∃ W st, Rel K W H σ st ∧ Res K E σ W H st.r (f st) fun ds st' W' H' => ∀ p, Fre K W' H' σ st'.r p ds → H p = none → Q (.ref p) H'
def ResS (K : PySem.W.Frag) (E : EX) (σ : L2.St) (W : Wd) (H : Hp) (r : List Slot) (x : Ou) (D : Ends) : Prop :=
  match x with
  | .nx st' => ∀ σ' W' H', Rel K W' H' σ' st' → Ext W H σ r W' H' σ' st'.r → D.nx σ' H'
  | .rt d st' => ∀ σ' W' H' v, Rel K W' H' σ' st' → Ext W H σ r W' H' σ' st'.r → IsD K W' H' v d → D.rt v H'
  | .bk st' => ∀ σ' W' H', Rel K W' H' σ' st' → Ext W H σ r W' H' σ' st'.r → D.bk σ' H'
  | .ct st' => ∀ σ' W' H', Rel K W' H' σ' st' → Ext W H σ r W' H' σ' st'.r → D.ct σ' H'
  | .ex c st' => ∀ σ' W' H', Rel K W' H' σ' st' → Ext W H σ r W' H' σ' st'.r → E c σ' H'
  | .bad => False
def tS (K : PySem.W.Frag) (E : EX) (f : SD) : TS := fun D σ H => ∃ W st, Rel K W H σ st ∧ ResS K E σ W H st.r (f st) D

section
variable {K : PySem.W.Frag} {E : EX} {W W' W1 W2 : Wd} {H H' H1 H2 : Hp} {σ σ1 σ2 : L2.St} {r r1 r2 : List Slot} {α β : Type}
theorem Res.imp {x : Rs α} {C C' : α → Sta → Wd → Hp → Prop} (h : Res K E σ W H r x C) (i : ∀ a st' W' H', x = .ok a st' → Rel K W' H' σ st' → Ext W H σ r W' H' σ st'.r → C a st' W' H' → C' a st' W' H') : Res K E σ W H r x C' := by
  cases x with
  | ok a st => exact fun W' H' R X => i a st W' H' rfl R X (h W' H' R X)
  | ex c st => exact h
  | bad => exact h
theorem Res.base {x : Rs α} {C : α → Sta → Wd → Hp → Prop} (e : Ext W H σ r W1 H1 σ r1) (h : Res K E σ W H r x C) : Res K E σ W1 H1 r1 x C := by
  cases x with
  | ok a st => exact fun W' H' R X => h W' H' R (e.trans X)
  | ex c st => exact fun W' H' R X => h W' H' R (e.trans X)
  | bad => exact h
theorem ResS.base {x : Ou} {D : Ends} (e : Ext W H σ r W1 H1 σ1 r1) (h : ResS K E σ W H r x D) : ResS K E σ1 W1 H1 r1 x D := by
  cases x with
  | nx st => exact fun σ' W' H' R X => h σ' W' H' R (e.trans X)
  | rt d st => exact fun σ' W' H' v R X => h σ' W' H' v R (e.trans X)
  | bk st => exact fun σ' W' H' R X => h σ' W' H' R (e.trans X)
  | ct st => exact fun σ' W' H' R X => h σ' W' H' R (e.trans X)
  | ex c st => exact fun σ' W' H' R X => h σ' W' H' R (e.trans X)
  | bad => exact h
/-- one evaluation, then the rest -/
theorem Res.then {f : Rs α} {g : α → Sta → Rs β} {C : β → Sta → Wd → Hp → Prop} (h : Res K E σ W H r (f.bind g) C) :
    Res K E σ W H r f fun a st1 W1 H1 => Res K E σ W1 H1 st1.r (g a st1) C := by
  cases f with
  | ok a st => exact fun W' H' R X => Res.base X h
  | ex c st => exact h
  | bad => exact h
def Rs.run {α : Type} (x : Rs α) (g : α → Sta → Ou) : Ou := match x with
  | .ok a st => g a st
  | .ex c st => .ex c st
  | .bad => .bad
@[simp] theorem Rs.run_ok {α : Type} (a : α) (st : Sta) (g : α → Sta → Ou) : (Rs.ok a st).run g = g a st := rfl
@[simp] theorem Rs.run_ex {α : Type} (c : Nat) (st : Sta) (g : α → Sta → Ou) : (Rs.ex c st : Rs α).run g = .ex c st := rfl
@[simp] theorem Rs.run_bad {α : Type} (g : α → Sta → Ou) : (Rs.bad : Rs α).run g = .bad := rfl
theorem ResS.then {f : Rs α} {g : α → Sta → Ou} {D : Ends} (h : ResS K E σ W H r (f.run g) D) :
    Res K E σ W H r f fun a st1 W1 H1 => ResS K E σ W1 H1 st1.r (g a st1) D := by
  cases f with
  | ok a st => exact fun W' H' R X => ResS.base X h
  | ex c st => exact fun W' H' R X => h σ W' H' R X
  | bad => exact h
end
/-- a weaker reading -/
theorem pe_imp {X : Cx} {e : Expr} {t t' : TE} (h : PE X e t) (i : ∀ σ H Q, t' σ H Q → t σ H Q) : PE X e t' := ⟨fun pins s σ H Q I q => h.run pins s σ H Q I (i σ H Q q)⟩
theorem pt_imp {X : Cx} {e : Expr} {t t' : TT} (h : PT X e t) (i : ∀ σ H Q, t' σ H Q → t σ H Q) : PT X e t' := ⟨fun pins s σ H Q I q => h.run pins s σ H Q I (i σ H Q q)⟩
theorem pw_imp {X : Cx} {e : Expr} {t t' : TT} (h : PW X e t) (i : ∀ σ H Q, t' σ H Q → t σ H Q) : PW X e t' := ⟨fun wh pins s σ H Q I q => h.run wh pins s σ H Q I (i σ H Q q)⟩
theorem pa_imp {X : Cx} {e : List Expr} {t t' : TA} (h : PA X e t) (i : ∀ σ H Q, t' σ H Q → t σ H Q) : PA X e t' := ⟨fun pos pins s σ H Q I q => h.run pos pins s σ H Q I (i σ H Q q)⟩
theorem ps_imp {X : Cx} {e : Stmt} {t t' : TS} (h : PS X e t) (i : ∀ D σ H, t' D σ H → t D σ H) : PS X e t' := ⟨fun pins s σ H D I q => h.run pins s σ H D I (i D σ H q)⟩
theorem pss_imp {X : Cx} {e : List Stmt} {t t' : TS} (h : PSs X e t) (i : ∀ D σ H, t' D σ H → t D σ H) : PSs X e t' := ⟨fun pins s σ H D I q => h.run pins s σ H D I (i D σ H q)⟩
end DL
/-! DB: expressions. -/
namespace DL
open PySem PySem.Spec PyProof.Rows L2
section
variable {K : PySem.W.Frag} {W : Wd} {H : Hp} {σ : L2.St} {st : Sta}
def Fok (W : Wd) (H : Hp) : Prop := ∀ a, W.F a → ∃ xs, H a = some (.lst xs)
theorem Fok.more {H' : Hp} (R : Fok W H) (h : ∀ a o, H a = some o → H' a = some o) : Grow W H W H' :=
  ⟨h, fun _ h => h, fun _ h => .inl h, fun a f => by
    obtain ⟨xs, e⟩ := R a f
    exact ⟨xs, h a _ e⟩, rfl⟩
theorem Fok.new {p : Addr} {o : HO} (R : Fok W H) (hp : H p = none) : Grow W H W (upd H p o) :=
  R.more fun a u h => by rw [upd_ne (ne_of_none h hp)]; exact h
theorem Fok.newF {p : Addr} {xs : List V} (R : Fok W H) (hp : H p = none) : Grow W H ⟨fun a => W.F a ∨ a = p, W.L⟩ (upd H p (.lst xs)) :=
  ⟨fun a u h => by rw [upd_ne (ne_of_none h hp)]; exact h, fun _ h => .inl h, fun a h => h.imp id fun e => by rw [e]; exact hp, fun a h => by
    rcases h with h | h
    · obtain ⟨ys, e⟩ := R a h
      exact ⟨ys, by rw [upd_ne (ne_of_none e hp)]; exact e⟩
    · rw [h]; exact ⟨xs, upd_same⟩, rfl⟩
theorem Fok.refl (R : Fok W H) : Grow W H W H := R.more fun _ _ h => h
/-- a list of one's own is frozen -/
theorem Rel.freeze (R : Rel K W H σ st) {i : Nat} {l : List PyData} (h : st.r[i]? = some (.own l)) :
    ∃ a W', Rel K W' H σ { st with r := st.r.set i (.val (.list l)) } ∧ Ext W H σ st.r W' H σ (st.r.set i (.val (.list l))) ∧ σ[i]? = some (some (.ref a)) ∧ IsD K W' H (.ref a) (.list l) := by
  obtain ⟨a, xs, e1, e2, e3, e4, e5, e6⟩ := R.own i l h
  have hi : i < st.r.length := (List.getElem?_eq_some_iff.mp h).1
  have L0 : Lat W H ⟨fun b => W.F b ∨ b = a, W.L⟩ H := ⟨fun _ h => .inl h, fun _ _ h => h, fun _ _ _ h => h, fun _ _ h => h, fun _ _ _ h _ => h⟩
  have isd : IsD K ⟨fun b => W.F b ∨ b = a, W.L⟩ H (.ref a) (.list l) := .lst (.inl ⟨.inr rfl, e2⟩) e6 (e3.lat L0)
  refine ⟨a, ⟨fun b => W.F b ∨ b = a, W.L⟩, ⟨fun j d hj => ?_, fun j l' hj => ?_, fun j k l1 l2 b hj hk q1 q2 => ?_, by simpa using R.len, R.sl, R.nd, fun n b o hb ho => ?_, fun b hb => ?_, fun b hb h' => ?_⟩, ⟨fun _ h => .inl h, fun b hb => ?_, ⟨[], by simp, fun _ h => nomatch h⟩, fun _ _ h _ _ => h, fun _ h => h, fun b hb => ?_⟩, e1, isd⟩
  · by_cases hij : j = i
    · subst hij
      rw [List.getElem?_set_self hi] at hj
      cases hj
      exact ⟨_, e1, isd⟩
    · rw [List.getElem?_set_ne (Ne.symm hij)] at hj
      obtain ⟨v, q, z⟩ := R.val j d hj
      exact ⟨v, q, z.lat L0⟩
  · by_cases hij : j = i
    · subst hij
      rw [List.getElem?_set_self hi] at hj
      cases hj
    · rw [List.getElem?_set_ne (Ne.symm hij)] at hj
      obtain ⟨b, ys, q1, q2, q3, q4, q5, q6⟩ := R.own j l' hj
      refine ⟨b, ys, q1, q2, q3.lat L0, fun z => ?_, q5, q6⟩
      rcases z with z | z
      · exact q4 z
      · subst z
        exact hij (R.dj j i l' l _ hj h q1 e1)
  · have nj : j ≠ i := fun z => by subst z; rw [List.getElem?_set_self hi] at hj; cases hj
    have nk : k ≠ i := fun z => by subst z; rw [List.getElem?_set_self hi] at hk; cases hk
    rw [List.getElem?_set_ne (Ne.symm nj)] at hj
    rw [List.getElem?_set_ne (Ne.symm nk)] at hk
    exact R.dj j k l1 l2 b hj hk q1 q2
  · have q := R.sto n b o hb ho
    cases o with
    | lst m =>
      obtain ⟨ys, q1, q2, q3⟩ := q
      exact ⟨ys, q1, q2.lat L0, q3⟩
  · rcases hb with hb | hb
    · exact R.fok b hb
    · rw [hb]; exact ⟨xs, e2⟩
  · rcases h' with h' | h'
    · exact R.lf b hb h'
    · subst h'; exact e5 hb
  · rcases hb with hb | hb
    · exact .inl hb
    · subst hb; exact .inr (.inr ⟨i, l, h, e1⟩)
  · obtain ⟨j, l', q1, q2⟩ := hb
    have nj : j ≠ i := fun z => by subst z; rw [List.getElem?_set_self hi] at q1; cases q1
    rw [List.getElem?_set_ne (Ne.symm nj)] at q1
    exact .inl ⟨j, l', q1, q2⟩
end

/-! ### evaluators -/
def eC (d : PyData) : ED := fun st => .ok d st
def eVar (i : Nat) : ED := fun st => match st.r[i]? with
  | some (.val d) => .ok d st
  | some (.own l) => .ok (.list l) { st with r := st.r.set i (.val (.list l)) }
  | _ => .bad
def eOp1 (op : PyData → Option PyData) (fa : ED) : ED := fun st => (fa st).bind fun x s1 => match op x with
  | some d => .ok d s1
  | none => .bad
def eOp2 (op : PyData → PyData → Option PyData) (fa fb : ED) : ED := fun st => (fa st).bind fun x s1 => (fb s1).bind fun y s2 => match op x y with
  | some d => .ok d s2
  | none => .bad
def eNil : EL := fun st => .ok [] st
def eCons (fa : ED) (fl : EL) : EL := fun st => (fa st).bind fun x s1 => (fl s1).bind fun xs s2 => .ok (x :: xs) s2
def eOpL (op : List PyData → Option PyData) (fl : EL) : ED := fun st => (fl st).bind fun xs s1 => match op xs with
  | some d => .ok d s1
  | none => .bad
/-- a new list, frozen at once -/
def eLst (f : EL) : ED := fun st => (f st).bind fun ds s => .ok (.list ds) s
/-- a new list, in the store -/
def eNew (f : EL) : ED := fun st => (f st).bind fun ds s => .ok (rf s.s.length) { s with s := s.s ++ [.lst ds] }

section
variable {X : Cx} {E : EX} {pos : Pos} {a b : Expr} {fa fb : ED}
theorem de_var (i : Nat) {x : Str} (hN : X.N[i]? = some x := by rfl) (hv : Vis X.env.scope x := by first | exact Or.inl rfl | exact Or.inr (Or.inl rfl) | exact Or.inr (Or.inr rfl)) (hd : (x == ("__debug__" : Str)) = false := by decide)
    (hcd : (x == ("__classdict__" : Str)) = false := by decide) : PE X (.Name x pos) (tD X.K E (eVar i)) := by
  refine pe_imp (pe_var hN hv hd hcd) fun σ H Q ⟨W, st, R, h⟩ => ?_
  unfold eVar at h
  cases e : st.r[i]? with
  | none => rw [e] at h; exact h.elim
  | some s =>
    rw [e] at h
    cases s with
    | non => exact h.elim
    | val d =>
      obtain ⟨v, q, z⟩ := R.val i d e
      exact ⟨v, q, h W H R .refl v z⟩
    | own l =>
      obtain ⟨a, W', R', X', q, z⟩ := R.freeze e
      exact ⟨.ref a, q, h W' H R' X' _ z⟩
theorem tD_c {v : V} {d : PyData} (hv : ∀ W H, IsD X.K W H v d) (σ : L2.St) (H : Hp) (Q : VK) : tD X.K E (eC d) σ H Q → tC v σ H Q := fun ⟨W, st, R, h⟩ => h W H R .refl v (hv W H)
theorem de_int {i j} : PE X (.Constant (.int i) j pos) (tD X.K E (eC (.int i))) := pe_imp pe_int (tD_c fun _ _ => .int i)
theorem de_bl {i j} : PE X (.Constant (.bool i) j pos) (tD X.K E (eC (.bool i))) := pe_imp pe_bl (tD_c fun _ _ => .bl i)
theorem de_str {i j} : PE X (.Constant (.str i) j pos) (tD X.K E (eC (.str i))) := pe_imp pe_str (tD_c fun _ _ => .str i)
theorem de_non {j} : PE X (.Constant .none j pos) (tD X.K E (eC .none)) := pe_imp pe_non (tD_c fun _ _ => .non)
/-- a constant of the module: a number, a text -/
theorem de_globI {x : Str} {i : Int} {t : Tok} (hm : X.mg x = some (.int i t)) (hg : Gl X x := by rfl) (hd : (x == ("__debug__" : Str)) = false := by decide) : PE X (.Name x pos) (tD X.K E (eC (.int i))) :=
  pe_imp (pe_glob (v := .int i) hg hm ⟨_, rfl⟩ hd) (tD_c fun _ _ => .int i)
theorem de_globS {x : Str} {i : Str} {t : Tok} (hm : X.mg x = some (.str i t)) (hg : Gl X x := by rfl) (hd : (x == ("__debug__" : Str)) = false := by decide) : PE X (.Name x pos) (tD X.K E (eC (.str i))) :=
  pe_imp (pe_glob (v := .str i) hg hm ⟨_, rfl⟩ hd) (tD_c fun _ _ => .str i)

/-! ### operations by data -/
def rD2 (K : PySem.W.Frag) (op : PyData → PyData → Option PyData) : R2 := fun x y H Q => ∃ W dx dy d, IsD K W H x dx ∧ IsD K W H y dy ∧ op dx dy = some d ∧ Fok W H ∧ ∀ v W' H', Grow W H W' H' → IsD K W' H' v d → Q v H'
def rD1 (K : PySem.W.Frag) (op : PyData → Option PyData) : V → Hp → VK → Prop := fun x H Q => ∃ W dx d, IsD K W H x dx ∧ op dx = some d ∧ Fok W H ∧ ∀ v W' H', Grow W H W' H' → IsD K W' H' v d → Q v H'
def rDL (K : PySem.W.Frag) (op : List PyData → Option PyData) : List V → Hp → VK → Prop := fun xs H Q => ∃ W ds d, IsDs K W H xs ds ∧ op ds = some d ∧ Fok W H ∧ ∀ v W' H', Grow W H W' H' → IsD K W' H' v d → Q v H'
/-- the same, a new list -/
def rNL (K : PySem.W.Frag) (op : List PyData → Option (List PyData)) : List V → Hp → VK → Prop := fun xs H Q => ∃ W ds es, IsDs K W H xs ds ∧ op ds = some es ∧ Fok W H ∧
  ∀ p H', (∀ a o, H a = some o → H' a = some o) → H p = none → (∃ ys, H' p = some (.lst ys) ∧ IsDs K W H' ys es) → es.length ≤ sizeLine → Q (.ref p) H'
theorem OpR.imp {f : Value → Value → Sem Value} {r r' : R2} (h : OpR X f r) (i : ∀ x y H Q, r' x y H Q → r x y H Q) : OpR X f r' := fun pins s σ H x y v u Q I rx ry q => h pins s σ H x y v u Q I rx ry (i x y H Q q)
theorem UnR.imp {f : Value → Sem Value} {r r' : V → Hp → VK → Prop} (h : UnR X f r) (i : ∀ x H Q, r' x H Q → r x H Q) : UnR X f r' := fun pins s σ H x v Q I rx q => h pins s σ H x v Q I rx (i x H Q q)
theorem CallR.imp {f : Value} {r r' : List V → Hp → VK → Prop} (h : CallR X f r) (i : ∀ x H Q, r' x H Q → r x H Q) : CallR X f r' := fun pins s σ H x v Q I rx q => h pins s σ H x v Q I rx (i x H Q q)
theorem CallR.or {f : Value} {r r' : List V → Hp → VK → Prop} (h : CallR X f r) (h' : CallR X f r') : CallR X f (fun x H Q => r x H Q ∨ r' x H Q) := fun pins s σ H x v Q I rx q => q.elim (h pins s σ H x v Q I rx) (h' pins s σ H x v Q I rx)
theorem IxR.imp {r r' : R2} (h : IxR X r) (i : ∀ x y H Q, r' x y H Q → r x y H Q) : IxR X r' := fun e1 e2 pins s σ H x y v u Q I rx ry q hs => h e1 e2 pins s σ H x y v u Q I rx ry (i x y H Q q) hs
theorem MtR.imp {id : String} {r r' : V → List V → Hp → VK → Prop} (h : MtR X id r) (i : ∀ x xs H Q, r' x xs H Q → r x xs H Q) : MtR X id r' := fun pins s σ H x xs v us Q I rx rxs q => h pins s σ H x xs v us Q I rx rxs (i x xs H Q q)

theorem tD_mono {K : PySem.W.Frag} {f : ED} {σ : L2.St} {H : Hp} {Q Q' : VK} (h : tD K E f σ H Q) (i : ∀ v H', Q v H' → Q' v H') : tD K E f σ H Q' := by
  obtain ⟨W, st, R, h⟩ := h
  exact ⟨W, st, R, h.imp fun _ _ _ _ _ _ _ q v z => i _ _ (q v z)⟩
theorem tD_of {K : PySem.W.Frag} {f : ED} {σ : L2.St} {H : Hp} {Q : VK} {W : Wd} {st : Sta} (R : Rel K W H σ st) (h : Res K E σ W H st.r (f st) fun d _ W' H' => ∀ v, IsD K W' H' v d → Q v H') : tD K E f σ H Q := ⟨W, st, R, h⟩
theorem op2_read {K : PySem.W.Frag} {op : PyData → PyData → Option PyData} {σ : L2.St} {H : Hp} {Q : VK} (h : tD K E (eOp2 op fa fb) σ H Q) : tOp (rD2 K op) (tD K E fa) (tD K E fb) σ H Q := by
  obtain ⟨W, st, R, h⟩ := h
  refine tD_of R (h.then.imp fun x s1 W1 H1 _ R1 X1 h1 v hv => tD_of R1 (h1.then.imp fun y s2 W2 H2 _ R2 X2 h2 u hu => ?_))
  cases e : op x y with
  | none => rw [e] at h2; exact h2.elim
  | some d =>
    rw [e] at h2
    exact ⟨W2, x, y, d, hv.lat (R1.lat X2), hu, e, R2.fok, fun v' W' H' g z => h2 W' H' (g.rel R2) g.ext v' z⟩
theorem de_bin {o : Operator} {op : PyData → PyData → Option PyData} (ho : OpR X (binaryOp o) (rD2 X.K op)) (ha : PE X a (tD X.K E fa)) (hb : PE X b (tD X.K E fb)) : PE X (.BinOp a o b pos) (tD X.K E (eOp2 op fa fb)) :=
  pe_imp (pe_op ho ha hb) fun _ _ _ h => op2_read h
theorem op1_read {K : PySem.W.Frag} {op : PyData → Option PyData} {σ : L2.St} {H : Hp} {Q : VK} (h : tD K E (eOp1 op fa) σ H Q) : tUn (rD1 K op) (tD K E fa) σ H Q := by
  obtain ⟨W, st, R, h⟩ := h
  refine tD_of R (h.then.imp fun x s1 W1 H1 _ R1 X1 h1 v hv => ?_)
  cases e : op x with
  | none => rw [e] at h1; exact h1.elim
  | some d =>
    rw [e] at h1
    exact ⟨W1, x, d, hv, e, R1.fok, fun v' W' H' g z => h1 W' H' (g.rel R1) g.ext v' z⟩
theorem de_un {o : UnaryOp} {op : PyData → Option PyData} (ho : UnR X (unaryOp o) (rD1 X.K op)) (ha : PE X a (tD X.K E fa)) : PE X (.UnaryOp o a pos) (tD X.K E (eOp1 op fa)) :=
  pe_imp (pe_un ho ha) fun _ _ _ h => op1_read h
theorem de_cmp {o : CmpOp} {op : PyData → PyData → Option PyData} (ho : OpR X (compareOp o) (rD2 X.K op)) (ha : PE X a (tD X.K E fa)) (hb : PE X b (tD X.K E fb)) (hm : behindInMarks o b = false := by first | exact nobehind _ (by decide) (by decide) | rfl) :
    PE X (.Compare a [o] [b] pos) (tD X.K E (eOp2 op fa fb)) := pe_imp (pe_cmpR ho ha hb hm) fun _ _ _ h => op2_read h
/-- a bool, as a test -/
def asB (f : ED) : ET := fun st => (f st).bind fun d s => match d with
  | .bool k => .ok k s
  | _ => .bad
theorem asB_read {K : PySem.W.Frag} {f : ED} {σ : L2.St} {H : Hp} {Q : Bool → Hp → Prop} (h : tT K E (asB f) σ H Q) : tD K E f σ H fun x H' => ∃ k, x = .bl k ∧ Q k H' := by
  obtain ⟨W, st, R, h⟩ := h
  refine tD_of R (h.then.imp fun x s1 W1 H1 _ R1 X1 h1 v hv => ?_)
  cases x with
  | bool k => cases hv; exact ⟨k, rfl, h1 W1 H1 R1 .refl⟩
  | _ => exact h1.elim
theorem dt_cmp {o : CmpOp} {op : PyData → PyData → Option PyData} (ho : OpR X (compareOp o) (rD2 X.K op)) (ha : PE X a (tD X.K E fa)) (hb : PE X b (tD X.K E fb)) (hm : behindInMarks o b = false := by first | exact nobehind _ (by decide) (by decide) | rfl) :
    PT X (.Compare a [o] [b] pos) (tT X.K E (asB (eOp2 op fa fb))) := pt_imp (pt_cmpR ho ha hb hm) fun _ _ _ h => op2_read (asB_read h)
theorem dt_val {e : Expr} {f : ED} (h : PE X e (tD X.K E f)) (he : ∀ whole, isTrue e X.env whole = (do let v ← whole; standAt e.pos; holding [v] (truthy v)) := by intro _; rfl) : PT X e (tT X.K E (asB f)) :=
  pt_imp (pt_val h he) fun _ _ _ h => asB_read h

/-! ### and, or, not, if -/
def eAnd (fa fb : ED) : ED := fun st => (fa st).bind fun x s1 => match x with
  | .bool true => fb s1
  | .bool false => .ok (.bool false) s1
  | _ => .bad
def eOr (fa fb : ED) : ED := fun st => (fa st).bind fun x s1 => match x with
  | .bool false => fb s1
  | .bool true => .ok (.bool true) s1
  | _ => .bad
def eNot (fa : ED) : ED := fun st => (fa st).bind fun x s1 => match x with
  | .bool k => .ok (.bool (!k)) s1
  | _ => .bad
def eIf (c : ET) (fa fb : ED) : ED := fun st => (c st).bind fun k s1 => if k = true then fa s1 else fb s1
def bAnd (fa fb : ET) : ET := fun st => (fa st).bind fun k s1 => if k = true then fb s1 else .ok false s1
def bOr (fa fb : ET) : ET := fun st => (fa st).bind fun k s1 => if k = true then .ok true s1 else fb s1
def bNot (fa : ET) : ET := fun st => (fa st).bind fun k s1 => .ok (!k) s1
variable {rest : List Expr} {ca cb : ET}
theorem de_and (ha : PE X a (tD X.K E fa)) (hb : PE X (.BoolOp .And (b :: rest) pos) (tD X.K E fb)) : PE X (.BoolOp .And (a :: b :: rest) pos) (tD X.K E (eAnd fa fb)) := by
  refine pe_imp (pe_and ha hb) fun σ H Q ⟨W, st, R, h⟩ => tD_of R (h.then.imp fun x s1 W1 H1 _ R1 X1 h1 v hv => ?_)
  cases x with
  | bool k =>
    cases hv
    refine ⟨k, rfl, ?_⟩
    cases k with
    | true => exact tD_of R1 h1
    | false => exact h1 W1 H1 R1 .refl _ (.bl false)
  | _ => exact h1.elim
theorem de_or (ha : PE X a (tD X.K E fa)) (hb : PE X (.BoolOp .Or (b :: rest) pos) (tD X.K E fb)) : PE X (.BoolOp .Or (a :: b :: rest) pos) (tD X.K E (eOr fa fb)) := by
  refine pe_imp (pe_or ha hb) fun σ H Q ⟨W, st, R, h⟩ => tD_of R (h.then.imp fun x s1 W1 H1 _ R1 X1 h1 v hv => ?_)
  cases x with
  | bool k =>
    cases hv
    refine ⟨k, rfl, ?_⟩
    cases k with
    | false => exact tD_of R1 h1
    | true => exact h1 W1 H1 R1 .refl _ (.bl true)
  | _ => exact h1.elim
theorem de_one {o : BoolOp} (h : PE X a (tD X.K E fa)) : PE X (.BoolOp o [a] pos) (tD X.K E fa) := pe_one h
theorem de_not (ha : PE X a (tD X.K E fa)) : PE X (.UnaryOp .Not a pos) (tD X.K E (eNot fa)) := by
  refine pe_imp (pe_not ha) fun σ H Q ⟨W, st, R, h⟩ => tD_of R (h.then.imp fun x s1 W1 H1 _ R1 X1 h1 v hv => ?_)
  cases x with
  | bool k => cases hv; exact ⟨k, rfl, h1 W1 H1 R1 .refl _ (.bl _)⟩
  | _ => exact h1.elim
theorem tT_of {K : PySem.W.Frag} {f : ET} {σ : L2.St} {H : Hp} {Q : Bool → Hp → Prop} {W : Wd} {st : Sta} (R : Rel K W H σ st) (h : Res K E σ W H st.r (f st) fun d _ _ H' => Q d H') : tT K E f σ H Q := ⟨W, st, R, h⟩
theorem de_if {c : Expr} (hc : PT X c (tT X.K E ca)) (ha : PE X a (tD X.K E fa)) (hb : PE X b (tD X.K E fb)) : PE X (.IfExp c a b pos) (tD X.K E (eIf ca fa fb)) := by
  refine pe_imp (pe_ifExp hc ha hb) fun σ H Q ⟨W, st, R, h⟩ => tT_of R (h.then.imp fun k s1 W1 H1 _ R1 X1 h1 => ?_)
  cases k with
  | true => exact tD_of R1 h1
  | false => exact tD_of R1 h1
theorem dw_one {o : BoolOp} (h : PT X a (tT X.K E ca)) : PW X (.BoolOp o [a] pos) (tT X.K E ca) := by
  cases o with
  | And => exact pw_and1 h
  | Or => exact pw_or1 h
theorem dw_and (ha : PT X a (tT X.K E ca)) (hb : PW X (.BoolOp .And (b :: rest) pos) (tT X.K E cb)) : PW X (.BoolOp .And (a :: b :: rest) pos) (tT X.K E (bAnd ca cb)) := by
  refine pw_imp (pw_and ha hb) fun σ H Q ⟨W, st, R, h⟩ => tT_of R (h.then.imp fun k s1 W1 H1 _ R1 X1 h1 => ?_)
  cases k with
  | true => exact tT_of R1 h1
  | false => exact h1 W1 H1 R1 .refl
theorem dw_or (ha : PT X a (tT X.K E ca)) (hb : PW X (.BoolOp .Or (b :: rest) pos) (tT X.K E cb)) : PW X (.BoolOp .Or (a :: b :: rest) pos) (tT X.K E (bOr ca cb)) := by
  refine pw_imp (pw_or ha hb) fun σ H Q ⟨W, st, R, h⟩ => tT_of R (h.then.imp fun k s1 W1 H1 _ R1 X1 h1 => ?_)
  cases k with
  | false => exact tT_of R1 h1
  | true => exact h1 W1 H1 R1 .refl
theorem dt_w {e : Expr} (h : PW X e (tT X.K E ca)) : PT X e (tT X.K E ca) := h.pt
theorem dt_not (ha : PT X a (tT X.K E ca)) : PT X (.UnaryOp .Not a pos) (tT X.K E (bNot ca)) := by
  refine pt_imp (pt_not ha) fun σ H Q ⟨W, st, R, h⟩ => tT_of R (h.then.imp fun k s1 W1 H1 _ R1 X1 h1 => h1 W1 H1 R1 .refl)
/-- a < b < c -/
def eChain (op op' : PyData → PyData → Option PyData) (fa fb fc : ED) : ED := fun st => (fa st).bind fun x s1 => (fb s1).bind fun y s2 => match op x y with
  | some (.bool true) => (fc s2).bind fun z s3 => match op' y z with
    | some (.bool k) => .ok (.bool k) s3
    | _ => .bad
  | some (.bool false) => .ok (.bool false) s2
  | _ => .bad

/-! ### arguments, displays -/
variable {es : List Expr} {fl : EL}
theorem tL_of {K : PySem.W.Frag} {f : EL} {σ : L2.St} {H : Hp} {Q : List V → Hp → Prop} {W : Wd} {st : Sta} (R : Rel K W H σ st) (h : Res K E σ W H st.r (f st) fun d _ W' H' => ∀ vs, IsDs K W' H' vs d → Q vs H') : tL K E f σ H Q := ⟨W, st, R, h⟩
theorem dl_nil : PA X [] (tL X.K E eNil) := pa_imp pa_nil fun σ H Q ⟨W, st, R, h⟩ => h W H R .refl [] .nil
theorem dl_cons {e : Expr} (ha : PE X e (tD X.K E fa)) (hr : PA X es (tL X.K E fl)) (hs : starEach (e :: es) X.env = (false, eval e X.env) :: starEach es X.env := by rfl) : PA X (e :: es) (tL X.K E (eCons fa fl)) := by
  refine pa_imp (pa_cons ha hr hs) fun σ H Q ⟨W, st, R, h⟩ => tD_of R (h.then.imp fun x s1 W1 H1 _ R1 X1 h1 v hv => tL_of R1 (h1.then.imp fun xs s2 W2 H2 _ R2 X2 h2 vs hvs => ?_))
  exact h2 W2 H2 R2 .refl _ (.cons (hv.lat (R1.lat X2)) hvs)
def itemsOf : PyData → Option (List PyData)
  | .list l => some l
  | .tuple l => some l
  | _ => none
def eStar (fa : ED) (fl : EL) : EL := fun st => (fa st).bind fun x s1 => match itemsOf x with
  | some ys => (fl s1).bind fun xs s2 => .ok (ys ++ xs) s2
  | none => .bad
theorem IsD.items {K : PySem.W.Frag} {W : Wd} {H : Hp} {v : V} {d : PyData} {ys : List PyData} (h : IsD K W H v d) (e : itemsOf d = some ys) : ∃ p xs, v = .ref p ∧ (SqT K H p xs ∨ SqL K H p xs) ∧ IsDs K W H xs ys ∧ ys.length ≤ sizeLine := by
  cases h with
  | lst f z hs => cases e; exact ⟨_, _, rfl, .inr f.sq, hs, z⟩
  | tup f z hs => cases e; exact ⟨_, _, rfl, .inl f.sq, hs, z⟩
  | _ => cases e
theorem dl_star {e : Expr} {sp : Pos} (ha : PE X e (tD X.K E fa)) (hr : PA X es (tL X.K E fl)) (hs : starEach (.Starred e sp :: es) X.env = (true, eval e X.env) :: starEach es X.env := by rfl) : PA X (.Starred e sp :: es) (tL X.K E (eStar fa fl)) := by
  refine pa_imp (StX.pa_star ha hr hs) fun σ H Q ⟨W, st, R, h⟩ => tD_of R (h.then.imp fun x s1 W1 H1 _ R1 X1 h1 v hv => ?_)
  cases e : itemsOf x with
  | none => rw [e] at h1; exact h1.elim
  | some ys =>
    rw [e] at h1
    obtain ⟨p, xs, rfl, hq, hxs, _⟩ := hv.items e
    refine ⟨p, xs, rfl, hq, tL_of R1 (h1.then.imp fun zs s2 W2 H2 _ R2 X2 h2 vs hvs => ?_)⟩
    exact h2 W2 H2 R2 .refl _ ((hxs.lat (R1.lat X2)).append hvs)
def eTup (fl : EL) : ED := fun st => (fl st).bind fun ds s => if ds.length ≤ 16777216 then .ok (.tuple ds) s else .bad
def nLst (fl : EL) : EL := fun st => (fl st).bind fun ds s => if ds.length ≤ 16777216 then .ok ds s else .bad
theorem sz_line {n : Nat} (h : n ≤ 16777216) : n ≤ sizeLine := by rw [sizeLine_eq]; exact h
/-- a display of a tuple, its object known -/
def tTupF (t : TA) : TE := fun σ H Q => t σ H fun xs H1 => xs.length ≤ sizeLine ∧ ∀ p o, H1 p = none → o.cls = .type "tuple" → o.dict = none → Q (.ref p) (upd H1 p (.frz o (.tup xs)))
theorem pe_tupF {x1} {t : TA} (h : PA X es t) : PE X (.Tuple es x1 pos) (tTupF t) := by
  refine ⟨fun pins s σ H Q I hq => ?_⟩
  refine wpAny_Tuple_spliced (thn (h.run pos pins s σ H _ I hq) fun us s1 ⟨xs, H1, I1, r, z, q⟩ => ⟨by rw [← r.length]; exact z, ?_⟩)
  have hf : H1 s1.heap.objs.size = none := I1.hok.fresh (Nat.le_refl _)
  refine ⟨.ref s1.heap.objs.size, upd H1 s1.heap.objs.size (.frz { cls := .type "tuple", data := .seq us.toArray } (.tup xs)), I1.laid (t' := s1.toks) (fun b u e => Heap.get?_push_of_some _ e) (Nat.le_refl _) ?_, rfl, q _ _ hf rfl rfl⟩
  exact ⟨Heap.get?_push_size _ rfl, z, us, r, ⟨_, Heap.get?_push_size _ rfl, rfl, _, rfl⟩⟩
theorem de_tup {x1} (h : PA X es (tL X.K E fl)) : PE X (.Tuple es x1 pos) (tD X.K E (eTup fl)) := by
  refine pe_imp (pe_tupF h) fun σ H Q ⟨W, st, R, h⟩ => tL_of R (h.then.imp fun ds s1 W1 H1 _ R1 X1 h1 vs hvs => ?_)
  by_cases hz : ds.length ≤ 16777216
  · rw [if_pos hz] at h1
    refine ⟨by rw [hvs.length]; exact sz_line hz, fun p o hp hc hd => ?_⟩
    have g := Fok.new (p := p) (o := .frz o (.tup vs)) R1.fok hp
    exact h1 W1 _ (g.rel R1) g.ext _ (.tup (TupR.new hc hd) (sz_line hz) (hvs.lat g.lat))
  · rw [if_neg hz] at h1
    exact h1.elim
theorem tN_of {K : PySem.W.Frag} {f : EL} {σ : L2.St} {H : Hp} {Q : VK} {W : Wd} {st : Sta} (R : Rel K W H σ st) (h : Res K E σ W H st.r (f st) fun ds st' W' H' => ∀ p, Fre K W' H' σ st'.r p ds → H p = none → Q (.ref p) H') : tN K E f σ H Q := ⟨W, st, R, h⟩
/-- a new list at p -/
theorem Rel.fre {K : PySem.W.Frag} {W : Wd} {H H' : Hp} {σ : L2.St} {st : Sta} {p : Addr} {ys : List V} {ds : List PyData} (R : Rel K W H σ st) (hp : H p = none) (g : Grow W H W H') (e : H' p = some (.lst ys)) (hys : IsDs K W H' ys ds) (z : ds.length ≤ sizeLine) : Fre K W H' σ st.r p ds := by
  refine ⟨⟨ys, e, hys⟩, z, fun h => ?_, fun h => ?_, fun h => ?_⟩
  · obtain ⟨xs, q⟩ := R.fok p h
    rw [hp] at q; cases q
  · obtain ⟨n, hn, en⟩ := List.mem_iff_getElem.mp h
    have e1 : W.L[n]? = some p := by rw [List.getElem?_eq_getElem hn, en]
    have hn2 : n < st.s.length := by rw [← R.sl]; exact hn
    have q := R.sto n p _ e1 (List.getElem?_eq_getElem hn2)
    cases e3 : st.s[n] with
    | lst l =>
      rw [e3] at q
      obtain ⟨xs, q, _⟩ := q
      rw [hp] at q; cases q
  · obtain ⟨_, _, xs, q⟩ := R.ownF h
    rw [hp] at q; cases q
theorem dn_lst (h : PA X es (tL X.K E fl)) : PE X (.List es pos) (tN X.K E (nLst fl)) := by
  refine pe_imp (pe_lst h) fun σ H Q ⟨W, st, R, h⟩ => tL_of R (h.then.imp fun ds s1 W1 H1 _ R1 X1 h1 vs hvs => ?_)
  by_cases hz : ds.length ≤ 16777216
  · rw [if_pos hz] at h1
    refine ⟨by rw [hvs.length]; exact sz_line hz, fun p hp => ?_⟩
    have g := Fok.new (p := p) (o := .lst vs) R1.fok hp
    refine h1 W1 _ (g.rel R1) g.ext _ (R1.fre hp g upd_same (hvs.lat g.lat) (sz_line hz)) ?_
    cases q : H p with
    | none => rfl
    | some o =>
      exact absurd hp (X1.dom p (by rw [q]; simp))
  · rw [if_neg hz] at h1
    exact h1.elim
/-- a fresh list is frozen -/
theorem Fre.freeze {K : PySem.W.Frag} {W W1 : Wd} {H H1 : Hp} {σ : L2.St} {r : List Slot} {s1 : Sta} {p : Addr} {ds : List PyData} (hp : Fre K W1 H1 σ s1.r p ds) (R1 : Rel K W1 H1 σ s1) (X1 : Ext W H σ r W1 H1 σ s1.r) (hn : H p = none) :
    ∃ W2, Rel K W2 H1 σ s1 ∧ Ext W H σ r W2 H1 σ s1.r ∧ IsD K W2 H1 (.ref p) (.list ds) := by
  obtain ⟨⟨xs, e, hxs⟩, z, nf, nl, no⟩ := hp
  have L0 : Lat W1 H1 ⟨fun b => W1.F b ∨ b = p, W1.L⟩ H1 := ⟨fun _ h => .inl h, fun _ _ h => h, fun _ _ _ h => h, fun _ _ h => h, fun _ _ _ h _ => h⟩
  refine ⟨⟨fun b => W1.F b ∨ b = p, W1.L⟩, ?_, ?_, .lst (.inl ⟨.inr rfl, e⟩) z (hxs.lat L0)⟩
  · refine ⟨fun j d hj => ?_, fun j l' hj => ?_, R1.dj, R1.len, R1.sl, R1.nd, fun n b o hb ho => ?_, fun b hb => ?_, fun b hb h' => ?_⟩
    · obtain ⟨v, q, z⟩ := R1.val j d hj
      exact ⟨v, q, z.lat L0⟩
    · obtain ⟨b, ys, q1, q2, q3, q4, q5, q6⟩ := R1.own j l' hj
      refine ⟨b, ys, q1, q2, q3.lat L0, fun z => ?_, q5, q6⟩
      rcases z with z | z
      · exact q4 z
      · subst z; exact no ⟨j, l', hj, q1⟩
    · have q := R1.sto n b o hb ho
      cases o with
      | lst m =>
        obtain ⟨ys, q1, q2, q3⟩ := q
        exact ⟨ys, q1, q2.lat L0, q3⟩
    · rcases hb with hb | hb
      · exact R1.fok b hb
      · rw [hb]; exact ⟨xs, e⟩
    · rcases h' with h' | h'
      · exact R1.lf b hb h'
      · subst h'; exact nl hb
  · refine ⟨fun a h => .inl (X1.f a h), fun a h => ?_, X1.l, X1.keep, X1.dom, X1.on⟩
    rcases h with h | h
    · exact X1.fn a h
    · subst h; exact .inr (.inl hn)
/-- frozen at once -/
theorem de_new {e : Expr} {f : EL} (h : PE X e (tN X.K E f)) : PE X e (tD X.K E (eLst f)) := by
  refine pe_imp h fun σ H Q ⟨W, st, R, h⟩ => tN_of R ?_
  unfold eLst at h
  cases q : f st with
  | bad => rw [q] at h; exact h
  | ex c s1 => rw [q] at h; exact h
  | ok ds s1 =>
    rw [q] at h
    intro W1 H1 R1 X1 p hp hn
    obtain ⟨W2, R2, X2, z⟩ := hp.freeze R1 X1 hn
    exact h W2 H1 R2 X2 _ z
/-- laid into the store -/
theorem de_store {e : Expr} {f : EL} (h : PE X e (tN X.K E f)) : PE X e (tD X.K E (eNew f)) := by
  refine pe_imp h fun σ H Q ⟨W, st, R, h⟩ => tN_of R ?_
  unfold eNew at h
  cases q : f st with
  | bad => rw [q] at h; exact h
  | ex c s1 => rw [q] at h; exact h
  | ok ds s1 =>
    rw [q] at h
    intro W1 H1 R1 X1 p hp hn
    obtain ⟨⟨xs, e, hxs⟩, z, nf, nl, no⟩ := hp
    have L0 : Lat W1 H1 ⟨W1.F, W1.L ++ [p]⟩ H1 := ⟨fun _ h => h, fun n a h => by rw [List.getElem?_append_left (List.getElem?_eq_some_iff.mp h).1]; exact h, fun _ _ _ h => h, fun _ _ h => h, fun _ _ _ h _ => h⟩
    refine h ⟨W1.F, W1.L ++ [p]⟩ H1 ?_ ?_ _ (.rf (by rw [← R1.sl]; simp))
    · refine ⟨fun j d hj => ?_, fun j l' hj => ?_, R1.dj, R1.len, by simp [R1.sl], ?_, fun n b o hb ho => ?_, R1.fok, fun b hb h' => ?_⟩
      · obtain ⟨v, q, z⟩ := R1.val j d hj
        exact ⟨v, q, z.lat L0⟩
      · obtain ⟨b, ys, q1, q2, q3, q4, q5, q6⟩ := R1.own j l' hj
        refine ⟨b, ys, q1, q2, q3.lat L0, q4, fun z => ?_, q6⟩
        rcases List.mem_append.mp z with z | z
        · exact q5 z
        · rw [List.mem_singleton] at z
          subst z; exact no ⟨j, l', hj, q1⟩
      · refine List.nodup_append.mpr ⟨R1.nd, by simp, fun x hx y hy hxy => ?_⟩
        rw [List.mem_singleton] at hy
        rw [hxy, hy] at hx
        exact nl hx
      · have key : (W1.L[n]? = some b ∧ s1.s[n]? = some o) ∨ (b = p ∧ o = .lst ds) := by
          have hb' : (W1.L ++ [p])[n]? = some b := hb
          have ho' : (s1.s ++ [So.lst ds])[n]? = some o := ho
          by_cases hlt : n < W1.L.length
          · rw [List.getElem?_append_left hlt] at hb'
            rw [List.getElem?_append_left (by rw [← R1.sl]; exact hlt)] at ho'
            exact .inl ⟨hb', ho'⟩
          · have hle : W1.L.length ≤ n := Nat.le_of_not_lt hlt
            rw [List.getElem?_append_right hle] at hb'
            rw [List.getElem?_append_right (by rw [← R1.sl]; exact hle)] at ho'
            rw [← R1.sl] at ho'
            cases hk : n - W1.L.length with
            | zero => rw [hk] at hb' ho'; simp at hb' ho'; exact .inr ⟨hb'.symm, ho'.symm⟩
            | succ k => rw [hk] at hb'; simp at hb'
        rcases key with ⟨q1, q2⟩ | ⟨q1, q2⟩
        · have q := R1.sto n b o q1 q2
          cases o with
          | lst m =>
            obtain ⟨ys, q1, q2, q3⟩ := q
            exact ⟨ys, q1, q2.lat L0, q3⟩
        · subst q1 q2
          exact ⟨xs, e, hxs.lat L0, z⟩
      · rcases List.mem_append.mp hb with hb | hb
        · exact R1.lf b hb h'
        · rw [List.mem_singleton] at hb
          subst hb; exact nf h'
    · refine ⟨X1.f, X1.fn, ?_, X1.keep, X1.dom, X1.on⟩
      obtain ⟨m, e1, e2⟩ := X1.l
      refine ⟨m ++ [p], by show W1.L ++ [p] = _; rw [e1, List.append_assoc], fun a ha => ?_⟩
      rcases List.mem_append.mp ha with ha | ha
      · exact e2 a ha
      · rw [List.mem_singleton] at ha
        subst ha; exact hn
end
end DL
/-! DSort: sorted of data. -/
namespace DL
open PySem PySem.Spec PyProof.Rows L2 PySem.W PySem.SeqAt

section
variable {prog : Program} {w : World} {A : Around} {s : Shared}
theorem call_tuple_lt {E : Value → Shared → Prop} {Q : Value → Shared → Prop} {l b : Addr} {items items2 : Array Value} {e r : Nat → Bool} (hl : IsTup s.heap l items) (hb : IsTup s.heap b items2)
    (he : ∀ j (h1 : j < items.size) (h2 : j < items2.size), EqAt A.in1 s items[j] items2[j] (e j)) (hr : ∀ j (h1 : j < items.size) (h2 : j < items2.size), e j = false → RcLt A.in1 s items[j] items2[j] (r j))
    (h : Q (.bool (firstLt e r (decide (items.size < items2.size)) (List.range (min items.size items2.size)))) s) : wpAny (model prog w) A (call (.builtin "tuple.__lt__") [.ref l, .ref b]) Q E s := by
  obtain ⟨⟨cls, dd, data, sl⟩, ho, hc, n, hd⟩ := id hl
  obtain ⟨⟨cls2, dd2, data2, sl2⟩, ho2, hc2, n2, hd2⟩ := id hb
  simp only at hc hd hc2 hd2
  subst hc hd hc2 hd2
  exact call_meets F.slot_tuple_lt ⟨_, ho, rfl⟩ F.entry_tuple_lt (F.args_tuple_lt_2 _ _) (tuple_ltAt l b items items2 n n2 dd dd2 sl sl2 e r) ⟨ho, ho2, he, hr, h⟩
theorem oneLt_tup {E : Value → Shared → Prop} {xs ys : List PyData} {a b : Value} {as bs : List Addr} {Q : Bool → Shared → Prop} (ra : Reads s.heap a (.tuple xs) as) (rb : Reads s.heap b (.tuple ys) bs) (h : alike (.tuple xs) (.tuple ys) = true)
    (hu : A.units + min (PyData.tuple xs).depth (PyData.tuple ys).depth < cLine) (hq : Q (dataLt (.tuple xs) (.tuple ys)) s) : wpAny (model prog w) A (oneLt' true a b) Q E s := by
  have hal : alikeAll xs ys = true := by simpa [alike] using h
  cases ra with
  | @tuple l o vs n _ as₁ h1 h2 h3 h4 =>
    cases rb with
    | @tuple l' o' vs' n' _ bs₁ k1 k2 k3 k4 =>
      have n1 : vs.size = xs.length := by simpa using ReadsAll.length _ _ _ h4
      have n2 : vs'.size = ys.length := by simpa using ReadsAll.length _ _ _ k4
      rw [dataLt_tuple, ← firstLt_toks xs ys hal, ← n1, ← n2] at hq
      rw [oneLt'_eq]
      simp only [if_true]
      refine wpAny_bind (wpAny_cRoomFor (room_here hu) ?_)
      refine wpAny_bind (wpAny_callSpecialIfBound?_slot (T := "tuple") ⟨_, h1, h2⟩ F.slot_tuple_lt (call_tuple_lt (e := pairEq xs ys) (r := fun j => dataLt (xs.getD j .none) (ys.getD j .none)) ⟨_, h1, h2, _, h3⟩ ⟨_, k1, k2, _, k3⟩ (fun j j1 j2 => ?_) (fun j j1 j2 hj => ?_) ?_))
      · have := eqAt_alikeAll xs ys A.in1 s vs.toList vs'.toList _ _ h4 k4 hal (room_in hu) j (by simpa using j1) (by simpa using j2)
        simpa using this
      · have := rcLt_alikeAll xs ys A.in1 s vs.toList vs'.toList _ _ h4 k4 hal (room_in hu) j (by simpa using j1) (by simpa using j2) hj
        simpa using this
      · exact wpAny_truthy_bool hq
end
section
variable {M : Model} {A : Around} {E : Value → Shared → Prop} {s : Shared}
theorem firsts_tup : ∀ {vs : List Value} {ds : List PyData} {Q : List (Option Value) → Shared → Prop}, EachIs (fun v d => ∃ as, Reads s.heap v d as) vs ds → (∀ d ∈ ds, ∃ xs, d = .tuple xs) →
    (∀ fs : List (Option Value), fs.length = vs.length → (ds.head? = some (.tuple []) → fs.head? = some none) → Q fs s) → wpAny M A (vs.mapM firstOfTuple') Q E s
  | _, _, Q, .nil, _, h => by
    rw [List.mapM_nil]
    exact wpAny_pure (h [] rfl fun z => by simp at z)
  | v :: vs, d :: ds, Q, .cons ⟨as, r⟩ t, ht, h => by
    obtain ⟨xs, rfl⟩ := ht d List.mem_cons_self
    rw [List.mapM_cons, kas_first_eq]
    cases r with
    | @tuple a o ys n _ _ ho hc hd hr =>
      refine wpAny_bind (wpAny_bind (wpAny_typeOf (T := "tuple") ⟨o, ho, hc⟩ ?_))
      rw [if_neg (by decide)]
      refine wpAny_bind (listItems_at ho hd (wpAny_pure ?_))
      refine wpAny_bind (firsts_tup (Q := fun fs s' => wpAny M A (pure (ys[0]? :: fs)) Q E s') t (fun d hd => ht d (List.mem_cons_of_mem _ hd)) fun fs hl _ => wpAny_pure (h _ (by simp [hl]) fun z => ?_))
      have e : xs = [] := by simpa using z
      subst e
      have hn : ys.size = 0 := by simpa using ReadsAll.length _ _ _ hr
      show some ys[0]? = some none
      rw [Array.getElem?_eq_none (by omega)]
theorem kind_tup0 {vs : List Value} {ds : List PyData} {Q : SortKind → Shared → Prop} (h2 : 2 ≤ vs.length) (e : EachIs (fun v d => ∃ as, Reads s.heap v d as) vs ds) (ht : ∀ d ∈ ds, ∃ xs, d = .tuple xs) (h0 : ds.head? = some (.tuple [])) (h : Q oneType' s) :
    wpAny M A (keyKind' vs.toArray) Q E s := by
  rw [keyKind'_eq, List.mapM_toArray, map_eq_pure_bind]
  refine wpAny_bind (wpAny_bind (firsts_tup e ht fun fs hl hh => wpAny_pure ?_))
  have hf := hh h0
  cases fs with
  | nil => simp at hf
  | cons f fs =>
    have ef : f = none := by simpa using hf
    subst ef
    rw [if_neg (by simp), if_neg (by simp)]
    rw [oneTypeOnly'_eq, List.mapM_toArray, map_eq_pure_bind]
    have hT : ∀ v ∈ vs, Looks M s.heap (typeOf v) (.type "tuple") := fun v hv => by
      obtain ⟨d, hd, as, r⟩ := e.left v hv
      obtain ⟨xs, rfl⟩ := ht d hd
      exact looks_reads r
    refine wpAny_bind (wpAny_bind (wpAny_bind (kas_mapM (r := Value.type "tuple") _ (fun v hv Q' hq => (hT v hv).here hq) (wpAny_pure ?_))))
    obtain ⟨v₁, rest, rfl⟩ : ∃ v₁ rest, vs = v₁ :: rest := by
      cases vs with
      | nil => simp at h2
      | cons v r => exact ⟨v, r, rfl⟩
    have hall : ((List.map (fun _ => Value.type "tuple") (v₁ :: rest)).toArray.all fun x => x == Value.type "tuple") = true := by
      simp only [List.all_toArray, List.all_map, List.all_eq_true]
      intro _ _
      exact beq_self_eq_true _
    have h0' : (List.map (fun _ => Value.type "tuple") (v₁ :: rest)).toArray[0]? = some (Value.type "tuple") := by simp
    rw [h0']
    simp only [hall, if_true]
    exact wpAny_pure (wpAny_pure h)
end
section
variable {prog : Program} {w : World} {A : Around} {s : Shared}
/-- tuples, the first one empty -/
theorem sortsAt0 {vs : List Value} {ds : List PyData} (e : EachIs (fun v d => ∃ as, Reads s.heap v d as) vs ds) (hal : AllAlike ds) (ht : ∀ d ∈ ds, ∃ xs, d = .tuple xs) (h0 : ds.head? = some (.tuple [])) (hu : ∀ d, d ∈ ds → A.units + d.depth < cLine) : SortsAt prog w A s (dataKind s.heap ds) vs := by
  refine ⟨fun v hv => ?_, oneType', ?_, fun h2 E Q hq => kind_tup0 h2 e ht h0 hq⟩
  · obtain ⟨d, hd, as, r⟩ := e.left v hv
    exact ⟨_, dataKind_some hal hd r⟩
  · intro E x y a b Q ha hb hq
    obtain ⟨d, as, hd, ra, rfl⟩ := dataKind_inv ha
    obtain ⟨d', as', hd', rb, rfl⟩ := dataKind_inv hb
    obtain ⟨xs, rfl⟩ := ht d hd
    obtain ⟨ys, rfl⟩ := ht d' hd'
    rw [keyLt'_oneType]
    exact oneLt_tup ra rb (hal _ hd _ hd') (Nat.lt_of_le_of_lt (Nat.add_le_add_left (Nat.min_le_left _ _) _) (hu _ hd)) hq
end

/-! ### data are read -/
mutual
theorem IsD.dp {K : PySem.W.Frag} {W : Wd} {H : Hp} : ∀ (d : PyData) {v : V}, d.canLay0 = true → IsD K W H v d → Dp K H v d
  | .none, _, _, h => by cases h; exact .non
  | .bool b, _, _, h => by cases h; exact .bl b
  | .int i, _, _, h => by cases h; exact .int i
  | .str x, _, _, h => by cases h; exact .str x
  | .list ds, _, c, h => by
    cases h with
    | lst f z hs => exact .lst f.sq (IsDs.dp ds (by simpa [PyData.canLay0] using c) hs)
  | .tuple ds, _, c, h => by
    cases h with
    | tup f z hs => exact .tup f.sq (IsDs.dp ds (by simpa [PyData.canLay0] using c) hs)
  | .dict _, _, c, _ => by simp [PyData.canLay0] at c
theorem IsDs.dp {K : PySem.W.Frag} {W : Wd} {H : Hp} : ∀ (ds : List PyData) {vs : List V}, PyData.canLayAll0 ds = true → IsDs K W H vs ds → DpAll K H vs ds
  | [], _, _, h => by cases h; exact .nil
  | d :: ds, _, c, h => by
    cases h with
    | cons h hs =>
      have c' : d.canLay0 = true ∧ PyData.canLayAll0 ds = true := by simpa [PyData.canLayAll0] using c
      exact .cons (IsD.dp d c'.1 h) (IsDs.dp ds c'.2 hs)
end

theorem lay_all : ∀ (ys : List PyData), (∀ d ∈ ys, d.canLay0 = true) → PyData.canLayAll0 ys = true
  | [], _ => rfl
  | y :: ys, h => by
    simp only [PyData.canLayAll0, Bool.and_eq_true]
    exact ⟨h y List.mem_cons_self, lay_all ys fun d hd => h d (List.mem_cons_of_mem _ hd)⟩
def isTup : PyData → Bool
  | .tuple _ => true
  | _ => false
def isTup1 : PyData → Bool
  | .tuple (_ :: _) => true
  | _ => false
def notTN : PyData → Bool
  | .tuple _ => false
  | .none => false
  | _ => true
def sortKinds (ys : List PyData) : Bool := ys.all isTup1 || ys.all notTN || (ys.all isTup && (match ys with | .tuple [] :: _ => true | _ => false))
/-- can be sorted -/
def sortOk (ys : List PyData) : Bool := ys.all (fun d => d.canLay0 && decide (d.depth ≤ 60)) && ys.all (fun a => ys.all fun b => alike a b) && sortKinds ys
/-- sorted -/
def srt (ys : List PyData) : List PyData := ys.mergeSort (dataLe false id)
def opSorted : List PyData → Option (List PyData)
  | [x] => (itemsOf x).bind fun ys => if sortOk ys = true then some (srt ys) else none
  | _ => none
theorem sorts_of {prog : Program} {w : World} {A : Around} {s : Shared} {vs : List Value} {ds : List PyData} (e : EachIs (fun v d => ∃ as, Reads s.heap v d as) vs ds) (ok : sortOk ds = true) (hu : A.units + 62 < cLine) : AllAlike ds ∧ SortsAt prog w A s (dataKind s.heap ds) vs := by
  unfold sortOk at ok
  simp only [Bool.and_eq_true, List.all_eq_true, decide_eq_true_eq] at ok
  obtain ⟨⟨o1, o2⟩, o3⟩ := ok
  have hal : AllAlike ds := fun a ha b hb => o2 a ha b hb
  have hr : ∀ d, d ∈ ds → A.units + d.depth < cLine := fun d hd => by have := (o1 d hd).2; omega
  refine ⟨hal, ?_⟩
  unfold sortKinds at o3
  simp only [Bool.or_eq_true, Bool.and_eq_true, List.all_eq_true] at o3
  rcases o3 with (o3 | o3) | ⟨o3, o4⟩
  · refine SortsAt.data e hal (.inl fun d hd => ?_) hr
    have q := o3 d hd
    unfold isTup1 at q
    split at q
    · exact ⟨_, _, rfl⟩
    · cases q
  · refine SortsAt.data e hal (.inr fun d hd => ?_) hr
    have q := o3 d hd
    refine ⟨fun z => ?_, fun xs z => ?_⟩
    · subst z; simp [notTN] at q
    · subst z; simp [notTN] at q
  · refine sortsAt0 e hal (fun d hd => ?_) ?_ hr
    · have q := o3 d hd
      unfold isTup at q
      split at q
      · exact ⟨_, rfl⟩
      · cases q
    · split at o4
      · rfl
      · cases o4
theorem each_isd {K : PySem.W.Frag} {W : Wd} {H : Hp} : ∀ {vs : List V} {us : List Value} {ds : List PyData}, IsDs K W H vs ds → Vals vs us → EachIs (fun u d => ∃ x, RelV x u ∧ IsD K W H x d) us ds
  | _, _, _, .nil, .nil => .nil
  | _, _, _, .cons h t, .cons r rt => .cons ⟨_, r, h⟩ (each_isd t rt)
theorem each_out {K : PySem.W.Frag} {W : Wd} {H : Hp} : ∀ {us : List Value} {ds : List PyData}, EachIs (fun u d => ∃ x, RelV x u ∧ IsD K W H x d) us ds → ∃ vs, IsDs K W H vs ds ∧ Vals vs us
  | _, _, .nil => ⟨[], .nil, .nil⟩
  | _, _, .cons ⟨x, r, h⟩ t => by
    obtain ⟨vs, h1, h2⟩ := each_out t
    exact ⟨x :: vs, .cons h h1, .cons r h2⟩
section
variable {X : Cx}
theorem cn_sorted (hu : X.A.units + 66 < cLine) : CallR X (.builtin "sorted") (rNL X.K opSorted) := by
  intro pins s σ H xs us Q I r h
  obtain ⟨W, ds, es, hds, he, fok, q⟩ := h
  obtain ⟨x, rfl⟩ : ∃ x, ds = [x] := by
    match ds, he with
    | [x], _ => exact ⟨x, rfl⟩
  cases hds with
  | @cons v vs _ _ hv hn =>
    cases hn
    cases ei : itemsOf x with
    | none => simp [opSorted, ei] at he
    | some ys =>
      by_cases ok : sortOk ys = true
      · have he' : es = srt ys := by simpa [opSorted, ei, ok] using he.symm
        subst he'
        obtain ⟨p, zs, rfl, hq, hzs, hz⟩ := hv.items ei
        obtain ⟨u, rfl, ru⟩ := vals1 r
        obtain rfl : u = Value.ref p := ru
        refine call_function_entry_kw kind_sorted plain_sorted entry_sorted (args_sorted1 _) ?_
        unfold Builtin.«sorted»
        refine wpAny_bind (m := checkCount "sorted" 1 1 _) (wpAny_pure ?_)
        have coll : ∀ {Q : List Value → Shared → Prop}, (∀ us h', (∀ b o, s.heap.get? b = some o → h'.get? b = some o) → Vals zs us → Q us { s with heap := h' }) → wpAny (model X.prog X.w) X.A.in1 (collect (.ref p)) Q X.xe s := fun {Q} hQ => by
          rcases hq with hq | hq
          · obtain ⟨its, rv, ⟨o, ho, hc, n, hd⟩, hz'⟩ := I.tuple hq
            refine wpAny_collect_seq p (.inr rfl) ho hc hd (fun h' hk => ?_) (by rw [List.size_toArray, ← rv.length]; exact hz')
            have e : its.toArray.toList = its := by simp
            rw [e]
            exact hQ its h' hk rv
          · obtain ⟨its, rv, pl, hz'⟩ := I.list hq
            obtain ⟨o, ho, hc, n, hd⟩ := pl.isList
            refine wpAny_collect_seq p (.inl rfl) ho hc hd (fun h' hk => ?_) (by rw [List.size_toArray, ← rv.length]; exact hz')
            have e : its.toArray.toList = its := by simp
            rw [e]
            exact hQ its h' hk rv
        refine wpAny_bind (coll fun its h' hk rv => ?_)
        have I2 : Inv X pins σ H { s with heap := h' } := I.kept (t' := s.toks) hk
        have hlen : its.length ≤ sizeLine := by rw [← rv.length, hzs.length]; exact hz
        refine wpAny_bind (wpAny_newList ?_ hlen)
        have hat : (h'.push (seqObj "list" its.toArray 0)).get? h'.objs.size = some (seqObj "list" its.toArray 0) := Heap.get?_push_size _ rfl
        have I3 : Inv X pins σ H { s with heap := h'.push (seqObj "list" its.toArray 0) } := I2.kept (t' := s.toks) fun b o e => Heap.get?_push_of_some _ e
        have lay : PyData.canLayAll0 ys = true := by
          unfold sortOk at ok
          simp only [Bool.and_eq_true, List.all_eq_true, decide_eq_true_eq] at ok
          exact lay_all ys fun d hd => (ok.1.1 d hd).1
        have er : ∀ h2 : Heap, (∀ b o, h'.get? b = some o → h2.get? b = some o) → EachIs (fun u d => ∃ as, Reads h2 u d as) its ys := fun h2 k2 => by
          have : EachIs (fun u d => ∃ as, Reads h' u d as) its ys := by
            have gen : ∀ {vs : List V} {us : List Value} {ds : List PyData}, PyData.canLayAll0 ds = true → IsDs X.K W H vs ds → Vals vs us → EachIs (fun u d => ∃ as, Reads h' u d as) us ds := by
              intro vs us ds c hi
              induction ds generalizing vs us with
              | nil => intro r; cases hi; cases r; exact .nil
              | cons d ds ih =>
                intro r
                cases hi with
                | cons h1 h2 =>
                  cases r with
                  | cons r1 r2 =>
                    have c' : d.canLay0 = true ∧ PyData.canLayAll0 ds = true := by simpa [PyData.canLayAll0] using c
                    exact .cons (Dp.reads (s := { s with heap := h' }) I2 d _ _ (IsD.dp d c'.1 h1) r1) (ih c'.2 h2 r2)
            exact gen lay hzs rv
          exact this.mono fun _ _ ⟨as, r⟩ => ⟨as, PyProof.Rows.Reads.keeps k2 r⟩
        have hsort : ∀ b o, h'.get? b = some o → (sortingHeap (h'.push (seqObj "list" its.toArray 0)) h'.objs.size its).get? b = some o := fun b o e =>
          sortingHeap_old (Nat.ne_of_lt (Heap.lt_size e)) (Heap.get?_push_of_some _ e)
        obtain ⟨hal, S⟩ := sorts_of (prog := X.prog) (w := X.w) (A := X.A.in1.in1) (s := { s with heap := sortingHeap (h'.push (seqObj "list" its.toArray 0)) h'.objs.size its }) (er _ hsort) ok (by show X.A.units + 1 + 1 + 62 < _; omega)
        refine wpAny_bind (wpAny_holding (wpAny_call_entry_kw slot_list_sort ⟨_, hat, rfl⟩ entry_list_sort ?body (args_list_sort _)))
        case body =>
          refine list_sort_vals (s := { s with heap := h'.push (seqObj "list" its.toArray 0) }) hat S hlen ⟨_, rfl, wpAny_pure ⟨_, rfl, ?_⟩⟩
          -- the end
          have eo := sortVals_data (R := fun u d => ∃ x, RelV x u ∧ IsD X.K W H x d) (enc := id) false (each_isd hzs rv) (er _ hsort) (by rw [List.map_id]; exact hal)
          rw [List.map_id] at eo
          obtain ⟨out, ho1, ho2⟩ := each_out eo
          have hk2 : ∀ b o, h'.get? b = some o → (sortedHeap (h'.push (seqObj "list" its.toArray 0)) h'.objs.size its (sortVals (dataKind (sortingHeap (h'.push (seqObj "list" its.toArray 0)) h'.objs.size its) ys) false its its).toArray).get? b = some o := fun b o e => by
            have hlt := Heap.lt_size e
            rw [sortedHeap_old (Nat.ne_of_lt hlt) (by rw [size_push']; exact Nat.lt_succ_of_lt hlt), Heap.get?_push_ne _ _ _ (Nat.ne_of_lt hlt)]
            exact e
          obtain ⟨ep, hep⟩ := sortedHeap_at (vs := its) (out := (sortVals (dataKind (sortingHeap (h'.push (seqObj "list" its.toArray 0)) h'.objs.size its) ys) false its its).toArray) hat
          have hfresh : H h'.objs.size = none := I2.fresh
          have lout : out.length ≤ sizeLine := by
            rw [ho1.length]
            show (srt ys).length ≤ _
            unfold srt
            rw [List.length_mergeSort]
            exact hz
          refine ⟨.ref h'.objs.size, upd H h'.objs.size (.lst out), I2.laid (t' := s.toks) (o := .lst out) hk2 (Nat.le_refl _) ⟨lout, _, ep, ho2, hep⟩, rfl, q _ _ (fun a o ha => by rw [upd_ne (ne_of_none ha hfresh)]; exact ha) hfresh ⟨out, upd_same, ho1.lat ⟨fun _ h => h, fun _ _ h => h, fun a o _ ha => by rw [upd_ne (ne_of_none ha hfresh)]; exact ha, fun a xs ha => by rw [upd_ne (ne_of_none ha hfresh)]; exact ha, fun a o u ha _ => by rw [upd_ne (ne_of_none ha hfresh)]; exact ha⟩⟩ ?_⟩
          unfold srt
          rw [← ho1.length]
          exact lout
      · simp [opSorted, ei, ok] at he
end
end DL
/-! DC: operations on data. -/
namespace DL
open PySem PySem.Spec PyProof.Rows L2
section
variable {X : Cx} {W : Wd}
theorem rd_of {H : Hp} {a : Addr} {xs : List V} (h : FrL W H a xs) : Rd H a (.lst xs) := by
  rcases h with ⟨_, h⟩ | ⟨o, h⟩
  · exact .inl h
  · exact .inr ⟨o, h⟩
theorem Inv.lstF {pins : List (Addr × Obj)} {σ : L2.St} {H : Hp} {s : Shared} {a : Addr} {xs : List V} (I : Inv X pins σ H s) (h : Rd H a (.lst xs)) :
    xs.length ≤ sizeLine ∧ ∃ (its : List Value) (n : Nat), Vals xs its ∧ xs.length = its.length ∧ s.heap.get? a = some { cls := .type "list", data := .seq its.toArray n } := by
  obtain ⟨z, its, n, r, e⟩ := h.ok I.hok
  exact ⟨z, its, n, r, r.length, e⟩
def rCatL : R2 := fun x y H Q => ∃ l b xs zs, x = .ref l ∧ y = .ref b ∧ Rd H l (.lst xs) ∧ Rd H b (.lst zs) ∧ xs.length + zs.length ≤ sizeLine ∧ ∀ p, H p = none → Q (.ref p) (upd H p (.lst (xs ++ zs)))
theorem op_catL : OpR X (binaryOp .Add) rCatL := by
  intro pins s σ H x y v u Q I rx ry h
  obtain ⟨l, b, xs, zs, rfl, rfl, hH, hB, hz, q⟩ := h
  cases rx
  cases ry
  obtain ⟨z, its, n, r, hl, e⟩ := Inv.lstF I hH
  obtain ⟨z2, its2, n2, r2, hl2, e2⟩ := Inv.lstF I hB
  refine PySem.P.add_list e e2 ?_ (by rw [List.size_toArray, List.size_toArray]; omega)
  have ea : its.toArray ++ its2.toArray = (its ++ its2).toArray := by simp
  rw [ea]
  exact ⟨.ref _, _, I.lnew (t' := s.toks) (r.append r2) (by rw [List.length_append]; omega), rfl, q _ I.fresh⟩

/-- t + u, the new tuple's object known -/
def rCatF (K : PySem.W.Frag) : R2 := fun x y H Q => ∃ a b xs ys, x = .ref a ∧ y = .ref b ∧ SqT K H a xs ∧ SqT K H b ys ∧ xs.length + ys.length ≤ sizeLine ∧
  (xs = [] → Q (.ref b) H) ∧ (xs ≠ [] → ys = [] → Q (.ref a) H) ∧ (xs ≠ [] → ys ≠ [] → ∀ p o, H p = none → o.cls = .type "tuple" → o.dict = none → Q (.ref p) (upd H p (.frz o (.tup (xs ++ ys)))))
theorem op_catF : OpR X (binaryOp .Add) (rCatF X.K) := by
  intro pins s σ H x y v u Q I rx ry h
  obtain ⟨a, b, xs, ys, rfl, rfl, ha, hb, hz, q0, q1, q2⟩ := h
  cases rx
  cases ry
  obtain ⟨its, r1, p1, _⟩ := I.tuple ha
  obtain ⟨its2, r2, p2, _⟩ := I.tuple hb
  by_cases hx : xs = []
  · subst hx
    cases r1
    exact cat_tup0 p1 p2 ⟨.ref b, H, I, rfl, q0 rfl⟩
  · refine HT.cat_tup p1 p2 (fun z => hx (r1.nil_iff.mp z)) (fun z => ⟨.ref a, H, I, rfl, q1 hx (r2.nil_iff.mp z)⟩) (fun z => ?_) (by rw [← r1.length, ← r2.length]; exact hz)
    refine ⟨.ref s.heap.objs.size, _, I.laid (t' := s.toks) (o := .frz { cls := .type "tuple", data := .seq (its ++ its2).toArray } (.tup (xs ++ ys))) (fun b ob q => Heap.get?_push_of_some _ q) (Nat.le_refl _) ?_, rfl, q2 hx (fun w => z (r2.nil_iff.mpr w)) _ _ (I.hok.fresh (Nat.le_refl _)) rfl rfl⟩
    exact ⟨Heap.get?_push_size _ rfl, by rw [List.length_append]; exact hz, _, r1.append r2, IsTup.new _ _⟩

/-! ### arithmetic -/
def opAdd : PyData → PyData → Option PyData
  | .int i, .int j => some (.int (i + j))
  | .str x, .str y => if x.length + y.length ≤ 16777216 then some (.str (x ++ y)) else none
  | .tuple a, .tuple b => if a.length + b.length ≤ 16777216 then some (.tuple (a ++ b)) else none
  | .list a, .list b => if a.length + b.length ≤ 16777216 then some (.list (a ++ b)) else none
  | _, _ => none
theorem dop_add : OpR X (binaryOp .Add) (rD2 X.K opAdd) := by
  refine OpR.imp (op_add.or (op_add_str.or (op_catF.or op_catL))) fun x y H Q ⟨W, dx, dy, d, hx, hy, e, fok, q⟩ => ?_
  have g0 := Fok.refl fok
  unfold opAdd at e
  split at e
  · cases hx; cases hy; cases e
    exact .inl ⟨_, _, rfl, rfl, q _ W H g0 (.int _)⟩
  · cases hx; cases hy
    split at e
    · cases e
      exact .inr (.inl ⟨_, _, rfl, rfl, sz_line (by assumption), q _ W H g0 (.str _)⟩)
    · cases e
  · rename_i l1 l2
    split at e
    · rename_i hz
      cases e
      cases hx with
      | @tup a xs _ fa za hxs =>
        cases hy with
        | @tup b ys _ fb zb hys =>
          refine .inr (.inr (.inl ⟨a, b, xs, ys, rfl, rfl, fa.sq, fb.sq, by rw [hxs.length, hys.length]; exact sz_line hz, fun h0 => ?_, fun _ h0 => ?_, fun _ _ p o hp hc hd => ?_⟩))
          · subst h0
            cases hxs
            exact q _ W H g0 (.tup fb zb hys)
          · subst h0
            cases hys
            rw [List.append_nil] at q
            exact q _ W H g0 (.tup fa za hxs)
          · have g := Fok.new (p := p) (o := .frz o (.tup (xs ++ ys))) fok hp
            exact q _ W _ g (.tup (TupR.new hc hd) (by rw [List.length_append]; exact sz_line hz) ((hxs.lat g.lat).append (hys.lat g.lat)))
    · cases e
  · rename_i l1 l2
    split at e
    · rename_i hz
      cases e
      cases hx with
      | @lst a xs _ fa za hxs =>
        cases hy with
        | @lst b ys _ fb zb hys =>
          refine .inr (.inr (.inr ⟨a, b, xs, ys, rfl, rfl, rd_of fa, rd_of fb, by rw [hxs.length, hys.length]; exact sz_line hz, fun p hp => ?_⟩))
          have g := Fok.newF (p := p) (xs := xs ++ ys) fok hp
          exact q _ _ _ g (.lst (.inl ⟨.inr rfl, upd_same⟩) (by rw [List.length_append]; exact sz_line hz) ((hxs.lat g.lat).append (hys.lat g.lat)))
    · cases e
  · cases e
def opSub : PyData → PyData → Option PyData
  | .int i, .int j => some (.int (i - j))
  | _, _ => none
theorem dop_sub : OpR X (binaryOp .Sub) (rD2 X.K opSub) := by
  refine OpR.imp op_sub fun x y H Q ⟨W, dx, dy, d, hx, hy, e, fok, q⟩ => ?_
  unfold opSub at e
  split at e
  · cases hx; cases hy; cases e
    exact ⟨_, _, rfl, rfl, q _ W H fok.refl (.int _)⟩
  · cases e
def mulOk (i j : Int) : Bool := (decide (-18446744073709551616 < i) && decide (i < 18446744073709551616)) || (decide (-18446744073709551616 < j) && decide (j < 18446744073709551616))
def rRepL : R2 := fun x y H Q => ∃ l k xs, x = .ref l ∧ y = .int k ∧ H l = some (.lst xs) ∧ -(2 ^ 63) ≤ k ∧ k < 2 ^ 63 ∧ xs.length * k.toNat ≤ sizeLine ∧
  ∀ p, H p = none → Q (.ref p) (upd H p (.lst (List.replicate k.toNat xs).flatten))
/-- numbers -/
def opMul : PyData → PyData → Option PyData
  | .int i, .int j => if mulOk i j = true then some (.int (i * j)) else none
  | _, _ => none
theorem dop_mul : OpR X (binaryOp .Mult) (rD2 X.K opMul) := by
  refine OpR.imp op_mul fun x y H Q ⟨W, dx, dy, d, hx, hy, e, fok, q⟩ => ?_
  unfold opMul at e
  split at e
  · rename_i i j
    cases hx; cases hy
    split at e
    · rename_i hc
      cases e
      unfold mulOk at hc
      simp only [Bool.or_eq_true, Bool.and_eq_true, decide_eq_true_eq] at hc
      exact ⟨i, j, rfl, rfl, hc, q _ W H fok.refl (.int _)⟩
    · cases e
  · cases e
def opFdiv : PyData → PyData → Option PyData
  | .int i, .int j => if 0 < j ∧ j < 1073741824 then some (.int (i / j)) else none
  | _, _ => none
theorem dop_fdiv : OpR X (binaryOp .FloorDiv) (rD2 X.K opFdiv) := by
  refine OpR.imp op_fdiv fun x y H Q ⟨W, dx, dy, d, hx, hy, e, fok, q⟩ => ?_
  unfold opFdiv at e
  split at e
  · rename_i i j
    cases hx; cases hy
    split at e
    · rename_i hc
      cases e
      exact ⟨i, j, rfl, rfl, hc, q _ W H fok.refl (.int _)⟩
    · cases e
  · cases e
def opMod : PyData → PyData → Option PyData
  | .int i, .int j => if 0 < j then some (.int (i % j)) else none
  | _, _ => none
theorem dop_mod : OpR X (binaryOp .Mod) (rD2 X.K opMod) := by
  refine OpR.imp op_mod fun x y H Q ⟨W, dx, dy, d, hx, hy, e, fok, q⟩ => ?_
  unfold opMod at e
  split at e
  · rename_i i j
    cases hx; cases hy
    split at e
    · rename_i hc
      cases e
      exact ⟨i, j, rfl, rfl, hc, q _ W H fok.refl (.int _)⟩
    · cases e
  · cases e
def opPow : PyData → PyData → Option PyData
  | .int i, .int j => if 0 ≤ j ∧ j ≤ 1000 ∧ i.natAbs < 1000 then some (.int (i ^ j.toNat)) else none
  | _, _ => none
theorem dop_pow : OpR X (binaryOp .Pow) (rD2 X.K opPow) := by
  refine OpR.imp op_pow fun x y H Q ⟨W, dx, dy, d, hx, hy, e, fok, q⟩ => ?_
  unfold opPow at e
  split at e
  · rename_i i j
    cases hx; cases hy
    split at e
    · rename_i hc
      cases e
      exact ⟨i, j, rfl, rfl, ⟨hc.1, by omega, Nat.lt_trans hc.2.2 (by decide)⟩, q _ W H fok.refl (.int _)⟩
    · cases e
  · cases e
def opNeg : PyData → Option PyData
  | .int i => some (.int (-i))
  | _ => none
theorem dop_neg : UnR X (unaryOp .USub) (rD1 X.K opNeg) := by
  refine UnR.imp un_neg fun x H Q ⟨W, dx, d, hx, e, fok, q⟩ => ?_
  unfold opNeg at e
  split at e
  · cases hx; cases e
    exact ⟨_, rfl, q _ W H fok.refl (.int _)⟩
  · cases e

/-! ### comparisons -/
def shp (d : PyData) : Bool := SeqAt.shaped d
/-- are they equal -/
def eqD (x y : PyData) : Option Bool := match x, y with
  | .str a, .str b => some (decide (a = b))
  | x, y => if shp x && shp y then some (PyData.eqv x y) else none
def opEq : PyData → PyData → Option PyData := fun x y => (eqD x y).map .bool
def opNe : PyData → PyData → Option PyData := fun x y => (eqD x y).map fun b => .bool (!b)
theorem eqD_or {K : PySem.W.Frag} {W : Wd} {H : Hp} {x y : V} {dx dy : PyData} {b : Bool} (hx : IsD K W H x dx) (hy : IsD K W H y dy) (e : eqD dx dy = some b) :
    (scal x y = true ∧ decide (x = y) = b) ∨ (shp dx = true ∧ shp dy = true ∧ PyData.eqv dx dy = b) := by
  unfold eqD at e
  split at e
  · cases hx; cases hy; cases e
    exact .inl ⟨rfl, by rw [Bool.eq_iff_iff]; simp⟩
  · split at e
    · rename_i hc
      rw [Bool.and_eq_true] at hc
      cases e
      exact .inr ⟨hc.1, hc.2, rfl⟩
    · cases e
theorem shp_lay {d : PyData} (h : shp d = true) : d.canLay0 = true := SeqAt.canLay_of_shaped h
theorem dop_eq (hu : X.A.units + 64 < cLine) : OpR X (compareOp .Eq) (rD2 X.K opEq) := by
  refine OpR.imp (op_eq.or (op_eqD hu)) fun x y H Q ⟨W, dx, dy, d, hx, hy, e, fok, q⟩ => ?_
  unfold opEq at e
  obtain ⟨b, eb, rfl⟩ := Option.map_eq_some_iff.mp e
  rcases eqD_or hx hy eb with ⟨h1, rfl⟩ | ⟨h1, h2, rfl⟩
  · exact .inl ⟨h1, q _ W H fok.refl (.bl _)⟩
  · exact .inr ⟨dx, dy, IsD.dp dx (SeqAt.canLay_of_shaped h1) hx, IsD.dp dy (SeqAt.canLay_of_shaped h2) hy, h1, h2, q _ W H fok.refl (.bl _)⟩
theorem dop_ne (hu : X.A.units + 64 < cLine) : OpR X (compareOp .NotEq) (rD2 X.K opNe) := by
  refine OpR.imp (op_ne.or (op_neD hu)) fun x y H Q ⟨W, dx, dy, d, hx, hy, e, fok, q⟩ => ?_
  unfold opNe at e
  obtain ⟨b, eb, rfl⟩ := Option.map_eq_some_iff.mp e
  rcases eqD_or hx hy eb with ⟨h1, rfl⟩ | ⟨h1, h2, rfl⟩
  · exact .inl ⟨h1, q _ W H fok.refl (.bl _)⟩
  · exact .inr ⟨dx, dy, IsD.dp dx (SeqAt.canLay_of_shaped h1) hx, IsD.dp dy (SeqAt.canLay_of_shaped h2) hy, h1, h2, q _ W H fok.refl (.bl _)⟩
theorem intsOf_all {K : PySem.W.Frag} {H : Hp} : ∀ {xs : List V} {l : List PyData} {ns : List Int}, IsDs K W H xs l → l = ns.map PyData.int → xs = ns.map V.int
  | _, _, [], .nil, _ => rfl
  | _, _, n :: ns, .nil, e => by simp at e
  | _, _, [], .cons _ _, e => by simp at e
  | _, _, n :: ns, .cons h t, e => by
    rw [List.map_cons] at e
    obtain ⟨rfl, e2⟩ := List.cons.inj e
    cases h
    rw [List.map_cons, intsOf_all t e2]
def intsOf : List PyData → Option (List Int)
  | [] => some []
  | .int i :: r => (intsOf r).map (i :: ·)
  | _ => none
theorem intsOf_map : ∀ {l : List PyData} {ns : List Int}, intsOf l = some ns → l = ns.map PyData.int
  | [], ns, h => by simp [intsOf] at h; subst h; rfl
  | .int i :: r, ns, h => by
    unfold intsOf at h
    cases e : intsOf r with
    | none => rw [e] at h; cases h
    | some ms =>
      rw [e] at h
      cases h
      rw [List.map_cons, intsOf_map e]
  | .none :: _, _, h => by simp [intsOf] at h
  | .bool _ :: _, _, h => by simp [intsOf] at h
  | .str _ :: _, _, h => by simp [intsOf] at h
  | .list _ :: _, _, h => by simp [intsOf] at h
  | .tuple _ :: _, _, h => by simp [intsOf] at h
  | .dict _ :: _, _, h => by simp [intsOf] at h
/-- numbers, tuples of numbers -/
def opLt : PyData → PyData → Option PyData
  | .int i, .int j => some (.bool (decide (i < j)))
  | .tuple a, .tuple b => match intsOf a, intsOf b with
    | some ns, some ms => some (.bool (HT.lexLt ns ms))
    | _, _ => none
  | _, _ => none
theorem dop_lt (hu : X.A.units < cLine) : OpR X (compareOp .Lt) (rD2 X.K opLt) := by
  refine OpR.imp (op_lt.or (op_ltT hu)) fun x y H Q ⟨W, dx, dy, d, hx, hy, e, fok, q⟩ => ?_
  unfold opLt at e
  split at e
  · cases hx; cases hy; cases e
    exact .inl ⟨_, _, rfl, rfl, q _ W H fok.refl (.bl _)⟩
  · split at e
    · rename_i l1 l2 ns ms e1 e2
      cases e
      cases hx with
      | @tup a xs _ fa za hxs =>
        cases hy with
        | @tup b ys _ fb zb hys =>
          have x1 := intsOf_all hxs (intsOf_map e1)
          have x2 := intsOf_all hys (intsOf_map e2)
          subst x1 x2
          exact .inr ⟨a, b, ns, ms, rfl, rfl, fa.sq, fb.sq, q _ W H fok.refl (.bl _)⟩
    · cases e
  · cases e
def opI (p : Int → Int → Bool) : PyData → PyData → Option PyData
  | .int i, .int j => some (.bool (p i j))
  | _, _ => none
theorem dop_I {o : CmpOp} {p : Int → Int → Bool} (h : OpR X (compareOp o) (rI0 fun i j => .bl (p i j))) : OpR X (compareOp o) (rD2 X.K (opI p)) := by
  refine OpR.imp h fun x y H Q ⟨W, dx, dy, d, hx, hy, e, fok, q⟩ => ?_
  unfold opI at e
  split at e
  · cases hx; cases hy; cases e
    exact ⟨_, _, rfl, rfl, q _ W H fok.refl (.bl _)⟩
  · cases e
abbrev opLe := opI fun i j => decide (i ≤ j)
abbrev opGt := opI fun i j => decide (j < i)
abbrev opGe := opI fun i j => decide (j ≤ i)
theorem dop_le : OpR X (compareOp .LtE) (rD2 X.K opLe) := dop_I op_le
theorem dop_gt : OpR X (compareOp .Gt) (rD2 X.K opGt) := dop_I op_gt
theorem dop_ge : OpR X (compareOp .GtE) (rD2 X.K opGe) := dop_I op_ge
def opIsN : PyData → PyData → Option PyData
  | .none, .none => some (.bool true)
  | _, .none => some (.bool false)
  | _, _ => none
def opNotN : PyData → PyData → Option PyData
  | .none, .none => some (.bool false)
  | _, .none => some (.bool true)
  | _, _ => none
theorem isN_dec {K : PySem.W.Frag} {H : Hp} {v : V} {d : PyData} (h : IsD K W H v d) : decide (v = V.non) = (match d with | .none => true | _ => false) := by
  cases h <;> first | rfl | exact decide_eq_false (fun z => by cases z)
theorem dop_isN : OpR X (compareOp .Is) (rD2 X.K opIsN) := by
  refine OpR.imp op_isN fun x y H Q ⟨W, dx, dy, d, hx, hy, e, fok, q⟩ => ?_
  have hn := isN_dec hx
  unfold opIsN at e
  split at e
  · cases hy; cases e
    refine ⟨rfl, ?_⟩
    rw [hn]
    exact q _ W H fok.refl (.bl _)
  · rename_i h0
    cases hy; cases e
    refine ⟨rfl, ?_⟩
    rw [hn]
    split
    · exact absurd rfl h0
    · exact q _ W H fok.refl (.bl _)
  · cases e
theorem dop_notN : OpR X (compareOp .IsNot) (rD2 X.K opNotN) := by
  refine OpR.imp op_notN fun x y H Q ⟨W, dx, dy, d, hx, hy, e, fok, q⟩ => ?_
  have hn := isN_dec hx
  unfold opNotN at e
  split at e
  · cases hy; cases e
    refine ⟨rfl, ?_⟩
    rw [hn]
    exact q _ W H fok.refl (.bl _)
  · rename_i h0
    cases hy; cases e
    refine ⟨rfl, ?_⟩
    rw [hn]
    split
    · exact absurd rfl h0
    · exact q _ W H fok.refl (.bl _)
  · cases e
def flatD : PyData → Bool
  | .none => true
  | .bool _ => true
  | .int _ => true
  | .str _ => true
  | _ => false
theorem flat_isd {K : PySem.W.Frag} {H : Hp} {v : V} {d : PyData} (h : IsD K W H v d) (f : flatD d = true) : flatV v = true := by
  cases h <;> first | rfl | cases f
theorem eqv_isd {K : PySem.W.Frag} {H : Hp} {v u : V} {d e : PyData} (h : IsD K W H v d) (h' : IsD K W H u e) (f : flatD d = true) (f' : flatD e = true) : eqV v u = PyData.eqv d e := by
  cases h <;> cases h' <;> first
    | (cases f; done)
    | (cases f'; done)
    | (simp [eqV, PyData.eqv]; done)
    | (rename_i a b; cases a <;> simp [eqV, PyData.eqv]; done)
    | (rename_i a b; cases b <;> simp [eqV, PyData.eqv]; done)
    | rfl
theorem flats_isd {K : PySem.W.Frag} {H : Hp} : ∀ {vs : List V} {ds : List PyData}, IsDs K W H vs ds → ds.all flatD = true → vs.all flatV = true
  | _, _, .nil, _ => rfl
  | _, _, .cons h t, f => by
    rw [List.all_cons, Bool.and_eq_true] at f
    rw [List.all_cons, flat_isd h f.1, flats_isd t f.2]
    rfl
theorem inV_isd {K : PySem.W.Frag} {H : Hp} {x : V} {d : PyData} (h : IsD K W H x d) (fx : flatD d = true) : ∀ {vs : List V} {ds : List PyData}, IsDs K W H vs ds → ds.all flatD = true → inV x vs = ds.any fun z => PyData.eqv z d
  | _, _, .nil, _ => rfl
  | _, _, .cons q t, f => by
    rw [List.all_cons, Bool.and_eq_true] at f
    have ih := inV_isd h fx t f.2
    unfold inV at ih ⊢
    rw [List.any_cons, List.any_cons, eqv_isd q h f.1 fx, ih]
/-- flat things in anything; things of any depth in a list -/
def inD (x y : PyData) : Option Bool := (itemsOf y).bind fun ys =>
  if flatD x && ys.all flatD then some (ys.any fun z => PyData.eqv z x) else
  match y with
  | .list _ => if shp x && shp y then some (ys.any fun z => PyData.eqv z x) else none
  | _ => none
def opIn : PyData → PyData → Option PyData := fun x y => (inD x y).map .bool
def opNotIn : PyData → PyData → Option PyData := fun x y => (inD x y).map fun b => .bool (!b)
theorem inD_or {K : PySem.W.Frag} {H : Hp} {x y : V} {dx dy : PyData} {b : Bool} (hx : IsD K W H x dx) (hy : IsD K W H y dy) (e : inD dx dy = some b) :
    (∃ p xs, y = .ref p ∧ (SqL K H p xs ∨ SqT K H p xs) ∧ flatV x = true ∧ xs.all flatV = true ∧ inV x xs = b) ∨ ∃ d ds, Dp K H x d ∧ Dp K H y (.list ds) ∧ SeqAt.shaped d = true ∧ SeqAt.shaped (.list ds) = true ∧ (ds.any fun z => PyData.eqv z d) = b := by
  unfold inD at e
  cases ei : itemsOf dy with
  | none => rw [ei] at e; cases e
  | some ys =>
    rw [ei] at e
    simp only [Option.bind_some] at e
    obtain ⟨p, xs, rfl, hq, hxs, _⟩ := hy.items ei
    split at e
    · rename_i hc
      rw [Bool.and_eq_true] at hc
      have e' : (ys.any fun z => PyData.eqv z dx) = b := Option.some.inj e
      exact .inl ⟨p, xs, rfl, hq.symm, flat_isd hx hc.1, flats_isd hxs hc.2, (inV_isd hx hc.1 hxs hc.2).trans e'⟩
    · split at e
      · split at e
        · rename_i hc
          rw [Bool.and_eq_true] at hc
          cases ei
          have e' : (ys.any fun z => PyData.eqv z dx) = b := Option.some.inj e
          exact .inr ⟨dx, ys, IsD.dp dx (shp_lay hc.1) hx, IsD.dp _ (shp_lay hc.2) hy, hc.1, hc.2, e'⟩
        · cases e
      · cases e
theorem dop_in (hu : X.A.units + 65 < cLine) : OpR X (compareOp .In) (rD2 X.K opIn) := by
  refine OpR.imp (op_in_seq.or (op_inD hu)) fun x y H Q ⟨W, dx, dy, d, hx, hy, e, fok, q⟩ => ?_
  unfold opIn at e
  cases eb : inD dx dy with
  | none => rw [eb] at e; cases e
  | some b =>
    rw [eb] at e
    cases e
    rcases inD_or hx hy eb with ⟨p, xs, h1, h2, h3, h4, h5⟩ | ⟨d, ds, h1, h2, h3, h4, h5⟩
    · refine .inl ⟨p, xs, h1, h2, h3, h4, ?_⟩
      show Q (.bl (inV x xs)) H
      rw [h5]
      exact q _ W H fok.refl (.bl _)
    · refine .inr ⟨d, ds, h1, h2, h3, h4, ?_⟩
      rw [h5]
      exact q _ W H fok.refl (.bl _)
theorem dop_notIn (hu : X.A.units + 65 < cLine) : OpR X (compareOp .NotIn) (rD2 X.K opNotIn) := by
  refine OpR.imp (op_notIn_seq.or (op_notInD hu)) fun x y H Q ⟨W, dx, dy, d, hx, hy, e, fok, q⟩ => ?_
  unfold opNotIn at e
  cases eb : inD dx dy with
  | none => rw [eb] at e; cases e
  | some b =>
    rw [eb] at e
    cases e
    rcases inD_or hx hy eb with ⟨p, xs, h1, h2, h3, h4, h5⟩ | ⟨d, ds, h1, h2, h3, h4, h5⟩
    · refine .inl ⟨p, xs, h1, h2, h3, h4, ?_⟩
      show Q (.bl (!inV x xs)) H
      rw [h5]
      exact q _ W H fok.refl (.bl _)
    · refine .inr ⟨d, ds, h1, h2, h3, h4, ?_⟩
      rw [h5]
      exact q _ W H fok.refl (.bl _)
end
end DL
/-! DD: calls of built-ins, subscripts, slices, methods. -/
namespace DL
open PySem PySem.Spec PyProof.Rows L2
section
variable {X : Cx} {E : EX} {pos p : Pos} {e b o : Expr} {es : List Expr} {fa fb : ED} {fl : EL} {x : Str} {id : String}

theorem opL_read {K : PySem.W.Frag} {op : List PyData → Option PyData} {σ : L2.St} {H : Hp} {Q : VK} (h : tD K E (eOpL op fl) σ H Q) : tCB (rDL K op) (tL K E fl) σ H Q := by
  obtain ⟨W, st, R, h⟩ := h
  refine tL_of R (h.then.imp fun xs s1 W1 H1 _ R1 X1 h1 vs hvs => ?_)
  cases q : op xs with
  | none => rw [q] at h1; exact h1.elim
  | some d =>
    rw [q] at h1
    exact ⟨W1, xs, d, hvs, q, R1.fok, fun v' W' H' g z => h1 W' H' (g.rel R1) g.ext v' z⟩
def nOpL (op : List PyData → Option (List PyData)) (fl : EL) : EL := fun st => (fl st).bind fun xs s1 => match op xs with
  | some d => .ok d s1
  | none => .bad
theorem nopL_read {K : PySem.W.Frag} {op : List PyData → Option (List PyData)} {σ : L2.St} {H : Hp} {Q : VK} (h : tN K E (nOpL op fl) σ H Q) : tCB (rNL K op) (tL K E fl) σ H Q := by
  obtain ⟨W, st, R, h⟩ := h
  refine tL_of R (h.then.imp fun xs s1 W1 H1 _ R1 X1 h1 vs hvs => ?_)
  cases q : op xs with
  | none => rw [q] at h1; exact h1.elim
  | some d =>
    rw [q] at h1
    refine ⟨W1, xs, d, hvs, q, R1.fok, fun p H' hk hp ⟨ys, e1, e2⟩ z => ?_⟩
    have g := Fok.more (W := W1) R1.fok hk
    refine h1 W1 H' (g.rel R1) g.ext p (R1.fre hp g e1 e2 z) ?_
    cases q : H p with
    | none => rfl
    | some o => exact absurd hp (X1.dom p (by rw [q]; simp))
theorem de_callB {op : List PyData → Option PyData} (hc : CallR X (.builtin id) (rDL X.K op)) (hm : X.mg x = none) (hv : bootBuiltins x = some (.builtin id)) (ha : PA X (e :: es) (tL X.K E fl)) (hg : Gl X x := by rfl) (hn : x ≠ "__name__" := by decide) (hdb : (x == ("__debug__" : Str)) = false := by decide)
    (he : starEach (e :: es) X.env = (false, eval e X.env) :: starEach es X.env := by rfl) (hpl : (backTo pos (starEach es X.env)).any (·.1) = false := by rfl) : PE X (.Call (.Name x p) (e :: es) [] pos) (tD X.K E (eOpL op fl)) :=
  pe_imp (pe_callB hc hg hm hv ha hn hdb he hpl) fun _ _ _ h => opL_read h
theorem de_callTy {op : List PyData → Option PyData} (hc : CallR X (.type id) (rDL X.K op)) (hm : X.mg x = none) (hv : bootBuiltins x = some (.type id)) (ha : PA X (e :: es) (tL X.K E fl)) (hg : Gl X x := by rfl) (hn : x ≠ "__name__" := by decide) (hdb : (x == ("__debug__" : Str)) = false := by decide)
    (he : starEach (e :: es) X.env = (false, eval e X.env) :: starEach es X.env := by rfl) (hpl : (backTo pos (starEach es X.env)).any (·.1) = false := by rfl) : PE X (.Call (.Name x p) (e :: es) [] pos) (tD X.K E (eOpL op fl)) :=
  pe_imp (pe_callTy hc hg hm hv ha hn hdb he hpl) fun _ _ _ h => opL_read h
theorem dn_callB {op : List PyData → Option (List PyData)} (hc : CallR X (.builtin id) (rNL X.K op)) (hm : X.mg x = none) (hv : bootBuiltins x = some (.builtin id)) (ha : PA X (e :: es) (tL X.K E fl)) (hg : Gl X x := by rfl) (hn : x ≠ "__name__" := by decide) (hdb : (x == ("__debug__" : Str)) = false := by decide)
    (he : starEach (e :: es) X.env = (false, eval e X.env) :: starEach es X.env := by rfl) (hpl : (backTo pos (starEach es X.env)).any (·.1) = false := by rfl) : PE X (.Call (.Name x p) (e :: es) [] pos) (tN X.K E (nOpL op fl)) :=
  pe_imp (pe_callB hc hg hm hv ha hn hdb he hpl) fun _ _ _ h => nopL_read h
theorem dn_callTy {op : List PyData → Option (List PyData)} (hc : CallR X (.type id) (rNL X.K op)) (hm : X.mg x = none) (hv : bootBuiltins x = some (.type id)) (ha : PA X (e :: es) (tL X.K E fl)) (hg : Gl X x := by rfl) (hn : x ≠ "__name__" := by decide) (hdb : (x == ("__debug__" : Str)) = false := by decide)
    (he : starEach (e :: es) X.env = (false, eval e X.env) :: starEach es X.env := by rfl) (hpl : (backTo pos (starEach es X.env)).any (·.1) = false := by rfl) : PE X (.Call (.Name x p) (e :: es) [] pos) (tN X.K E (nOpL op fl)) :=
  pe_imp (pe_callTy hc hg hm hv ha hn hdb he hpl) fun _ _ _ h => nopL_read h

/-! ### len, list, tuple, all, any, max, min -/
theorem isds1 {K : PySem.W.Frag} {W : Wd} {H : Hp} {vs : List V} {d : PyData} (h : IsDs K W H vs [d]) : ∃ v, vs = [v] ∧ IsD K W H v d := by
  cases h with
  | cons h t => cases t; exact ⟨_, rfl, h⟩
theorem isds2 {K : PySem.W.Frag} {W : Wd} {H : Hp} {vs : List V} {d e : PyData} (h : IsDs K W H vs [d, e]) : ∃ v u, vs = [v, u] ∧ IsD K W H v d ∧ IsD K W H u e := by
  cases h with
  | cons h t =>
    obtain ⟨u, rfl, h2⟩ := isds1 t
    exact ⟨_, _, rfl, h, h2⟩
def opLen : List PyData → Option PyData
  | [.dict [(.list [], .list l)]] => some (.int l.length)
  | [.str x] => if x.length ≤ 16777216 then some (.int x.length) else none
  | [d] => (itemsOf d).map fun ys => .int ys.length
  | _ => none
theorem dc_len : CallR X (.builtin "len") (rDL X.K opLen) := by
  refine CallR.imp (call_len_seq.or call_len_str) fun vs H Q ⟨W, ds, d, hds, e, fok, q⟩ => ?_
  unfold opLen at e
  split at e
  · obtain ⟨v, rfl, hv⟩ := isds1 hds
    cases e
    cases hv with
    | @scr a ns f z => exact .inl ⟨a, ns.map V.int, rfl, .inl f.sq, by simp only [List.length_map]; exact q _ W H fok.refl (by rw [List.length_map]; exact .int _)⟩
  · obtain ⟨v, rfl, hv⟩ := isds1 hds
    cases hv
    split at e
    · cases e
      exact .inr ⟨_, rfl, sz_line (by assumption), q _ W H fok.refl (.int _)⟩
    · cases e
  · rename_i d0 _ _
    obtain ⟨v, rfl, hv⟩ := isds1 hds
    cases ei : itemsOf d0 with
    | none => rw [ei] at e; cases e
    | some ys =>
      rw [ei] at e
      cases e
      obtain ⟨p, xs, rfl, hq, hxs, hz⟩ := hv.items ei
      exact .inl ⟨p, xs, rfl, hq.symm, by rw [hxs.length]; exact q _ W H fok.refl (.int _)⟩
  · cases e
def opList : List PyData → Option (List PyData)
  | [d] => itemsOf d
  | _ => none
theorem cn_list : CallR X (.type "list") (rNL X.K opList) := by
  refine CallR.imp call_list_of fun vs H Q ⟨W, ds, es, hds, e, fok, q⟩ => ?_
  unfold opList at e
  split at e
  · obtain ⟨v, rfl, hv⟩ := isds1 hds
    obtain ⟨p, xs, rfl, hq, hxs, hz⟩ := hv.items e
    refine ⟨p, xs, rfl, hq.symm, fun l hl => ?_⟩
    have g := Fok.new (p := l) (o := .lst xs) fok hl
    exact q l _ g.h hl ⟨xs, upd_same, hxs.lat g.lat⟩ hz
  · cases e
def opTuple : List PyData → Option PyData
  | [d] => (itemsOf d).map .tuple
  | _ => none
/-- tuple(xs), the new tuple's object known -/
theorem call_tuple_F : CallR X (.type "tuple") (fun xs H Q => ∃ p ys, xs = [.ref p] ∧ ((SqL X.K H p ys ∧ ∀ l o, H l = none → o.cls = .type "tuple" → o.dict = none → Q (.ref l) (upd H l (.frz o (.tup ys)))) ∨ (SqT X.K H p ys ∧ Q (.ref p) H))) := by
  intro pins s σ H xs us Q I r h
  obtain ⟨p, ys, rfl, h⟩ := h
  obtain ⟨u, rfl, rx⟩ := vals1 r
  cases rx
  rcases h with ⟨hq, q⟩ | ⟨hq, q⟩
  · obtain ⟨its, r', pl, hz⟩ := I.list hq
    have hlen := r'.length
    refine call_tuple_list pl.isList (fun h' kp => ?_) (by simp only [List.size_toArray] <;> omega)
    have I1 : Inv X pins σ H { s with heap := h' } := I.kept (t' := s.toks) kp
    refine ⟨.ref h'.objs.size, upd H h'.objs.size (.frz { cls := .type "tuple", data := .seq its.toArray } (.tup ys)), ?_, rfl, q _ _ (I1.hok.fresh (Nat.le_refl _)) rfl rfl⟩
    exact I1.laid (t' := s.toks) (fun b o e => Heap.get?_push_of_some _ e) (Nat.le_refl _) (show ObjOk X.prog X.w _ _ _ (.frz _ (.tup ys)) from ⟨Heap.get?_push_size _ rfl, hz, its, r', IsTup.new _ _⟩)
  · obtain ⟨its, r', pl, hz⟩ := I.tuple hq
    exact call_tuple_same pl ⟨.ref p, H, I, rfl, q⟩
theorem dc_tuple : CallR X (.type "tuple") (rDL X.K opTuple) := by
  refine CallR.imp call_tuple_F fun vs H Q ⟨W, ds, d, hds, e, fok, q⟩ => ?_
  unfold opTuple at e
  split at e
  · obtain ⟨v, rfl, hv⟩ := isds1 hds
    rename_i d0
    cases hv with
    | @lst a xs ys f z hs =>
      cases e
      refine ⟨a, xs, rfl, .inl ⟨f.sq, fun l o hl hc hd => ?_⟩⟩
      have g := Fok.new (p := l) (o := .frz o (.tup xs)) fok hl
      exact q _ W _ g (.tup (TupR.new hc hd) z (hs.lat g.lat))
    | @tup a xs ys f z hs =>
      cases e
      exact ⟨a, xs, rfl, .inr ⟨f.sq, q _ W H fok.refl (.tup f z hs)⟩⟩
    | _ => cases e
  · cases e
def boolsOf : List PyData → Option (List Bool)
  | [] => some []
  | .bool i :: r => (boolsOf r).map (i :: ·)
  | _ => none
theorem boolsOf_map : ∀ {l : List PyData} {ns : List Bool}, boolsOf l = some ns → l = ns.map PyData.bool
  | [], ns, h => by simp [boolsOf] at h; subst h; rfl
  | .bool i :: r, ns, h => by
    unfold boolsOf at h
    cases e : boolsOf r with
    | none => rw [e] at h; cases h
    | some ms =>
      rw [e] at h
      cases h
      rw [List.map_cons, boolsOf_map e]
  | .none :: _, _, h => by simp [boolsOf] at h
  | .int _ :: _, _, h => by simp [boolsOf] at h
  | .str _ :: _, _, h => by simp [boolsOf] at h
  | .list _ :: _, _, h => by simp [boolsOf] at h
  | .tuple _ :: _, _, h => by simp [boolsOf] at h
  | .dict _ :: _, _, h => by simp [boolsOf] at h
theorem boolsOf_all {K : PySem.W.Frag} {W : Wd} {H : Hp} : ∀ {xs : List V} {l : List PyData} {ns : List Bool}, IsDs K W H xs l → l = ns.map PyData.bool → xs = ns.map V.bl
  | _, _, [], .nil, _ => rfl
  | _, _, n :: ns, .nil, e => by simp at e
  | _, _, [], .cons _ _, e => by simp at e
  | _, _, n :: ns, .cons h t, e => by
    rw [List.map_cons] at e
    obtain ⟨rfl, e2⟩ := List.cons.inj e
    cases h
    rw [List.map_cons, boolsOf_all t e2]
def opAll : List PyData → Option PyData
  | [.list l] => (boolsOf l).map fun bs => .bool (bs.all _root_.id)
  | _ => none
def opAny : List PyData → Option PyData
  | [.list l] => (boolsOf l).map fun bs => .bool (bs.any _root_.id)
  | _ => none
theorem dc_all (hc : X.calm = true) : CallR X (.builtin "all") (rDL X.K opAll) := by
  refine CallR.imp (cr_all hc) fun vs H Q ⟨W, ds, d, hds, e, fok, q⟩ => ?_
  unfold opAll at e
  split at e
  · rename_i l
    obtain ⟨v, rfl, hv⟩ := isds1 hds
    cases eb : boolsOf l with
    | none => rw [eb] at e; cases e
    | some bs =>
      rw [eb] at e
      cases e
      cases hv with
      | @lst a xs _ f z hs =>
        have ex := boolsOf_all hs (boolsOf_map eb)
        subst ex
        exact ⟨a, bs, rfl, f.sq, q _ W H fok.refl (.bl _)⟩
  · cases e
theorem dc_any (hc : X.calm = true) : CallR X (.builtin "any") (rDL X.K opAny) := by
  refine CallR.imp (cr_any hc) fun vs H Q ⟨W, ds, d, hds, e, fok, q⟩ => ?_
  unfold opAny at e
  split at e
  · rename_i l
    obtain ⟨v, rfl, hv⟩ := isds1 hds
    cases eb : boolsOf l with
    | none => rw [eb] at e; cases e
    | some bs =>
      rw [eb] at e
      cases e
      cases hv with
      | @lst a xs _ f z hs =>
        have ex := boolsOf_all hs (boolsOf_map eb)
        subst ex
        exact ⟨a, bs, rfl, f.sq, q _ W H fok.refl (.bl _)⟩
  · cases e
def opMax2 : List PyData → Option PyData
  | [.int i, .int j] => some (.int (if j > i then j else i))
  | _ => none
def opMin2 : List PyData → Option PyData
  | [.int i, .int j] => some (.int (if j < i then j else i))
  | _ => none
theorem dc_max2 (hc : X.calm = true) : CallR X (.builtin "max") (rDL X.K opMax2) := by
  refine CallR.imp (call_max2 hc) fun vs H Q ⟨W, ds, d, hds, e, fok, q⟩ => ?_
  unfold opMax2 at e
  split at e
  · obtain ⟨v, u, rfl, hv, hu⟩ := isds2 hds
    cases hv; cases hu; cases e
    exact ⟨_, _, rfl, q _ W H fok.refl (.int _)⟩
  · cases e
theorem dc_min2 (hc : X.calm = true) : CallR X (.builtin "min") (rDL X.K opMin2) := by
  refine CallR.imp (call_min2 hc) fun vs H Q ⟨W, ds, d, hds, e, fok, q⟩ => ?_
  unfold opMin2 at e
  split at e
  · obtain ⟨v, u, rfl, hv, hu⟩ := isds2 hds
    cases hv; cases hu; cases e
    exact ⟨_, _, rfl, q _ W H fok.refl (.int _)⟩
  · cases e
/-- str(n) of a small number -/
def opStr : List PyData → Option PyData
  | [.int i] => if i.natAbs < 1000000000000000000 then some (.str (toString i)) else none
  | _ => none
theorem dc_str : CallR X (.type "str") (rDL X.K opStr) := by
  refine CallR.imp call_str_int fun vs H Q ⟨W, ds, d, hds, e, fok, q⟩ => ?_
  unfold opStr at e
  split at e
  · rename_i i
    obtain ⟨v, rfl, hv⟩ := isds1 hds
    cases hv
    split at e
    · rename_i hi
      cases e
      refine ⟨_, rfl, ?_, q _ W H fok.refl (.str _)⟩
      by_cases h0 : i.natAbs = 0
      · rw [h0]; decide
      · exact Nat.lt_trans ((Nat.log2_lt h0).mpr (Nat.lt_trans hi (by decide : 1000000000000000000 < 2 ^ 64))) (by decide)
    · cases e
  · cases e

/-! ### isinstance -/
def tyName : PyData → Option String
  | .none => some "NoneType"
  | .bool _ => some "bool"
  | .int _ => some "int"
  | .str _ => some "str"
  | .list _ => some "list"
  | .tuple _ => some "tuple"
  | .dict _ => none
def isiD (T : String) : PyData → Option PyData := fun d => ((tyName d).bind fun n => kitB n T).map .bool
theorem tyX_of {K : PySem.W.Frag} {W : Wd} {H : Hp} {v : V} {d : PyData} {n : String} (h : IsD K W H v d) (e : tyName d = some n) : TyX K H v (.type n) := by
  cases h with
  | non => cases e; exact .base .non
  | bl b => cases e; exact .base (.bl b)
  | int i => cases e; exact .base (.int i)
  | str x => cases e; exact .base (.str x)
  | lst f z hs =>
    cases e
    rcases f with ⟨_, h⟩ | ⟨o, h⟩
    · exact .base (.lst h)
    · exact .base (.frz h)
  | tup f z hs =>
    cases e
    obtain ⟨o, h, _⟩ := f
    exact .fTuple h
  | rf _ => cases e
  | scr _ _ => cases e
  | dct _ _ _ _ _ _ => cases e
theorem de_isi {T : String} {tn : Str} {p2 : Pos} (hm : X.mg "isinstance" = none) (hmT : X.mg tn = none) (hvT : bootBuiltins tn = some (.type T)) (he : PE X e (tD X.K E fa)) (hg : Gl X "isinstance" := by rfl) (hgT : Gl X tn := by rfl) (hnT : tn ≠ "__name__" := by decide)
    (hdT : (tn == ("__debug__" : Str)) = false := by decide) (hs : starEach [e, .Name tn p2] X.env = (false, eval e X.env) :: starEach [.Name tn p2] X.env := by rfl) :
    PE X (.Call (.Name "isinstance" p) [e, .Name tn p2] [] pos) (tD X.K E (eOp1 (isiD T) fa)) := by
  refine pe_imp (pe_callB call_isi hg hm (by decide +kernel) (pa_cons he (pa_cons (pe_bltn (v := .ty T) hgT hmT hvT rfl hnT hdT) pa_nil) hs) (by decide) (by decide) hs) fun σ H Q h => ?_
  obtain ⟨W, st, R, h⟩ := h
  refine tD_of R (h.then.imp fun x s1 W1 H1 _ R1 X1 h1 v hv => ?_)
  unfold isiD at h1
  cases en : tyName x with
  | none => rw [en] at h1; exact h1.elim
  | some n =>
    rw [en] at h1
    simp only [Option.bind_some] at h1
    cases ek : kitB n T with
    | none => rw [ek] at h1; exact h1.elim
    | some b =>
      rw [ek] at h1
      exact ⟨v, .ty T, .type n, .type T, b, rfl, .ty T, tyX_of hv en, kit_ty ek, h1 W1 H1 R1 .refl _ (.bl b)⟩

/-! ### list(range(..)) -/
def rgD (a b : Int) : List PyData := (List.range (b - a).toNat).map fun i => PyData.int (a + (i : Nat))
theorem isds_rg {K : PySem.W.Frag} {W : Wd} {H : Hp} (a b : Int) : IsDs K W H (rgV a b) (rgD a b) := by
  unfold rgV rgD
  generalize List.range (b - a).toNat = l
  induction l with
  | nil => exact .nil
  | cons i l ih => exact .cons (.int _) ih
/-- list(range(n)) -/
def nRg1 (fa : ED) : EL := fun st => (fa st).bind fun x s1 => match x with
  | .int n => if -1000000 ≤ n ∧ n ≤ 1000000 then .ok (rgD 0 n) s1 else .bad
  | _ => .bad
theorem dn_listRg1 {p2 pos2 : Pos} (hc : X.calm = true) (hm : X.mg "list" = none) (hmr : X.mg "range" = none) (he : PE X e (tD X.K E fa)) (hg : Gl X "list" := by rfl) (hgr : Gl X "range" := by rfl) (na : starEach [e] X.env = (false, eval e X.env) :: starEach [] X.env := by rfl) :
    PE X (.Call (.Name "list" p) [.Call (.Name "range" p2) [e] [] pos2] [] pos) (tN X.K E (nRg1 fa)) := by
  refine pe_imp (pe_listRg hc hg hm (prg_1 hgr hmr he na)) fun σ H Q h => ?_
  obtain ⟨W, st, R, h⟩ := h
  refine tD_of R (h.then.imp fun x s1 W1 H1 _ R1 X1 h1 v hv => ?_)
  cases x with
  | int n =>
    cases hv
    dsimp only at h1
    by_cases hb : -1000000 ≤ n ∧ n ≤ 1000000
    · rw [if_pos hb] at h1
      have hr : RgOk 0 n := by unfold RgOk; omega
      refine ⟨n, rfl, hr, fun q hq => ?_⟩
      have g := Fok.new (p := q) (o := .lst (rgV 0 n)) R1.fok hq
      refine h1 W1 _ (g.rel R1) g.ext q (R1.fre hq g upd_same (isds_rg 0 n) ?_) ?_
      · unfold rgD
        rw [List.length_map, List.length_range]
        have := hr.2.2.2.2
        rw [sizeLine_eq]
        omega
      · cases q' : H q with
        | none => rfl
        | some o => exact absurd hq (X1.dom q (by rw [q']; simp))
    · rw [if_neg hb] at h1; exact h1.elim
  | _ => exact h1.elim

/-! ### subscripts -/
def opIx : PyData → PyData → Option PyData
  | .dict [(.list [], .list l)], .int i => atI l i
  | .str z, .int i => if z.length ≤ 16777216 then (atI z.cps.toList i).map fun c => .str ⟨#[c]⟩ else none
  | d, .int i => (itemsOf d).bind fun ys => atI ys i
  | _, _ => none
theorem atI_isd {K : PySem.W.Frag} {W : Wd} {H : Hp} {xs : List V} {ys : List PyData} {i : Int} {d : PyData} (h : IsDs K W H xs ys) (e : atI ys i = some d) : ∃ v, atI xs i = some v ∧ IsD K W H v d := by
  unfold atI at e ⊢
  rw [h.length]
  cases ej : ixN ys.length i with
  | none => rw [ej] at e; cases e
  | some j =>
    rw [ej] at e
    obtain ⟨v, h1, h2⟩ := h.get e
    exact ⟨v, h1, h2⟩
theorem dop_ix : IxR X (rD2 X.K opIx) := by
  refine IxR.imp ix_seq fun x y H Q ⟨W, dx, dy, d, hx, hy, e, fok, q⟩ => ?_
  unfold opIx at e
  split at e
  · cases hy
    cases hx with
    | @scr a ns f z =>
      obtain ⟨v, h1, h2⟩ := atI_isd (K := X.K) (W := W) (H := H) (IsDs.mapInt ns) e
      exact .inl ⟨a, ns.map V.int, _, v, rfl, rfl, f.sq, h1, q _ W H fok.refl h2⟩
  · rename_i z i
    cases hx; cases hy
    split at e
    · cases ec : atI z.cps.toList i with
      | none => rw [ec] at e; cases e
      | some c =>
        rw [ec] at e
        cases e
        exact .inr (.inr ⟨z, i, c, rfl, rfl, sz_line (by assumption), ec, q _ W H fok.refl (.str _)⟩)
    · cases e
  · rename_i i _ _
    cases hy
    cases ei : itemsOf dx with
    | none => rw [ei] at e; cases e
    | some ys =>
      rw [ei] at e
      obtain ⟨p, xs, rfl, hq, hxs, hz⟩ := hx.items ei
      obtain ⟨v, h1, h2⟩ := atI_isd hxs e
      rcases hq with hq | hq
      · exact .inr (.inl ⟨p, xs, i, v, rfl, rfl, hq, h1, q _ W H fok.refl h2⟩)
      · exact .inl ⟨p, xs, i, v, rfl, rfl, hq, h1, q _ W H fok.refl h2⟩
  · cases e
theorem de_ix (ha : PE X e (tD X.K E fa)) (hb : PE X b (tD X.K E fb)) (hs : PlainIx b := by exact fun _ _ => rfl) : PE X (.Subscript e b pos) (tD X.K E (eOp2 opIx fa fb)) := pe_imp (pe_ix dop_ix ha hb hs) fun _ _ _ h => op2_read h

/-! ### slices -/
abbrev EO := Sta → Rs (Option Int)
def tO (K : PySem.W.Frag) (E : EX) (f : EO) : TO := fun σ H Q => ∃ W st, Rel K W H σ st ∧ Res K E σ W H st.r (f st) fun o _ _ H' => Q o H'
def oNone : EO := fun st => .ok none st
def oSome (fa : ED) : EO := fun st => (fa st).bind fun x s1 => match x with
  | .int i => .ok (some i) s1
  | _ => .bad
theorem tO_of {K : PySem.W.Frag} {f : EO} {σ : L2.St} {H : Hp} {Q : Option Int → Hp → Prop} {W : Wd} {st : Sta} (R : Rel K W H σ st) (h : Res K E σ W H st.r (f st) fun o _ _ H' => Q o H') : tO K E f σ H Q := ⟨W, st, R, h⟩
theorem po_imp {X : Cx} {e : Option Expr} {t t' : TO} (h : PO X e t) (i : ∀ σ H Q, t' σ H Q → t σ H Q) : PO X e t' := ⟨fun pins s σ H Q I q => h.run pins s σ H Q I (i σ H Q q)⟩
theorem do_none : PO X none (tO X.K E oNone) := po_imp po_none fun σ H Q ⟨W, st, R, h⟩ => h W H R .refl
theorem do_some (he : PE X e (tD X.K E fa)) : PO X (some e) (tO X.K E (oSome fa)) := by
  refine po_imp (po_some he) fun σ H Q ⟨W, st, R, h⟩ => tD_of R (h.then.imp fun x s1 W1 H1 _ R1 X1 h1 v hv => ?_)
  cases x with
  | int i => cases hv; exact ⟨i, rfl, h1 W1 H1 R1 .refl⟩
  | _ => exact h1.elim
def cutD (ys : List PyData) (lo hi : Option Int) : List PyData := (ys.drop (HT.sIx ys.length 0 lo)).take (HT.sIx ys.length ys.length hi - HT.sIx ys.length 0 lo)
/-- a list's or a tuple's slice; a text's -/
def slD : PyData → Option Int → Option Int → Option PyData
  | .dict [(.list [], .list ys)], lo, hi => some (.list (cutD ys lo hi))
  | .list ys, lo, hi => some (.list (cutD ys lo hi))
  | .tuple ys, lo, hi => some (.tuple (cutD ys lo hi))
  | _, _, _ => none
def eSl (fa : ED) (lo hi : EO) : ED := fun st => (fa st).bind fun x s1 => (lo s1).bind fun a s2 => (hi s2).bind fun b s3 => match slD x a b with
  | some d => .ok d s3
  | none => .bad
variable {lo hi : Option Expr} {fo fp : EO} {p2 : Pos}
theorem cut_isd {K : PySem.W.Frag} {W : Wd} {H : Hp} {xs : List V} {ys : List PyData} (h : IsDs K W H xs ys) (a b : Option Int) : IsDs K W H (cutV xs a b) (cutD ys a b) := by
  unfold cutV cutD
  rw [h.length]
  exact (h.drop _).take _
theorem cutD_len (ys : List PyData) (a b : Option Int) : (cutD ys a b).length ≤ ys.length := by
  unfold cutD
  rw [List.length_take, List.length_drop]
  omega
theorem cutD_all {ys : List PyData} {a b : Option Int} (h : HT.sIx ys.length 0 a = 0 ∧ HT.sIx ys.length ys.length b = ys.length) : cutD ys a b = ys := by
  unfold cutD
  rw [h.1, h.2]
  simp
/-- a tuple's slice, the new tuple's object known -/
def rSlF (K : PySem.W.Frag) : V → Option Int → Option Int → Hp → VK → Prop := fun x lo hi H Q => ∃ a xs, x = .ref a ∧ SqT K H a xs ∧
  (HT.sIx xs.length 0 lo = 0 ∧ HT.sIx xs.length xs.length hi = xs.length → Q (.ref a) H) ∧ (¬ (HT.sIx xs.length 0 lo = 0 ∧ HT.sIx xs.length xs.length hi = xs.length) → ∀ p o, H p = none → o.cls = .type "tuple" → o.dict = none → Q (.ref p) (upd H p (.frz o (.tup (cutV xs lo hi)))))
theorem sl_tupF : SlR X (rSlF X.K) := by
  intro pins s σ H x v vl vu lo hi sl Q I rx hs pl pu h
  obtain ⟨a, xs, rfl, hx, q1, q2⟩ := h
  cases rx
  obtain ⟨its, r, ht, hz⟩ := I.tuple hx
  have hlen : its.toArray.size = xs.length := by rw [List.size_toArray]; exact r.length.symm
  refine ⟨"tuple", _, PyProof.Rows.slot_tuple_getitem.lookup, ht.typeIs, ?_⟩
  by_cases hw : HT.sIx xs.length 0 lo = 0 ∧ HT.sIx xs.length xs.length hi = xs.length
  · exact getItem_tuple_whole ht hs pl pu (by rw [hlen]; exact hw) ⟨.ref a, H, I, rfl, q1 hw⟩
  · refine HT.getItem_tuple_cut ht hs pl pu (by rw [hlen]; exact hw) ?_ (by rw [hlen]; exact hz)
    rw [hlen]
    refine ⟨.ref s.heap.objs.size, _, I.laid (t' := s.toks) (o := .frz { cls := .type "tuple", data := .seq ((its.drop (HT.sIx xs.length 0 lo)).take (HT.sIx xs.length xs.length hi - HT.sIx xs.length 0 lo)).toArray } (.tup (cutV xs lo hi))) (fun b ob q => Heap.get?_push_of_some _ q) (Nat.le_refl _) ?_, rfl, q2 hw _ _ (I.hok.fresh (Nat.le_refl _)) rfl rfl⟩
    exact ⟨Heap.get?_push_size _ rfl, Nat.le_trans (cutV_length xs lo hi) hz, _, (r.drop (HT.sIx xs.length 0 lo)).take (HT.sIx xs.length xs.length hi - HT.sIx xs.length 0 lo), IsTup.new _ _⟩
theorem de_sl (ha : PE X e (tD X.K E fa)) (hl : PO X lo (tO X.K E fo)) (hh : PO X hi (tO X.K E fp)) : PE X (.Subscript e (.Slice lo hi none p2) pos) (tD X.K E (eSl fa fo fp)) := by
  refine pe_imp (pe_slice (SlR.or sl_list sl_tupF) ha hl hh) fun σ H Q h => ?_
  obtain ⟨W, st, R, h⟩ := h
  refine tD_of R (h.then.imp fun x s1 W1 H1 _ R1 X1 h1 v hv => tO_of R1 (h1.then.imp fun a s2 W2 H2 _ R2 X2 h2 => tO_of R2 (h2.then.imp fun b s3 W3 H3 _ R3 X3 h3 => ?_)))
  have hv3 := (hv.lat (R1.lat X2)).lat (R2.lat X3)
  cases x with
  | list ys =>
    cases hv3 with
    | @lst p xs _ f z hs =>
      refine .inl ⟨p, xs, rfl, f.sq, fun q hq => ?_⟩
      have g := Fok.newF (p := q) (xs := cutV xs a b) R3.fok hq
      exact h3 _ _ (g.rel R3) g.ext _ (.lst (.inl ⟨.inr rfl, upd_same⟩) (Nat.le_trans (cutD_len ys a b) z) ((cut_isd hs a b).lat g.lat))
  | dict kv =>
    cases hv3 with
    | rf _ => exact h3.elim
    | dct _ _ _ _ _ _ => exact h3.elim
    | @scr p ns f z =>
      refine .inl ⟨p, ns.map V.int, rfl, f.sq, fun q hq => ?_⟩
      have g := Fok.newF (p := q) (xs := cutV (ns.map V.int) a b) R3.fok hq
      exact h3 _ _ (g.rel R3) g.ext _ (.lst (.inl ⟨.inr rfl, upd_same⟩) (Nat.le_trans (cutD_len _ a b) (by rw [List.length_map]; exact z)) ((cut_isd (IsDs.mapInt ns) a b).lat g.lat))
  | tuple ys =>
    cases hv3 with
    | @tup p xs _ f z hs =>
      refine .inr ⟨p, xs, rfl, f.sq, fun hw => ?_, fun _ q o hq hc hd => ?_⟩
      · rw [hs.length] at hw
        have e1 := cutD_all hw
        have h3' : Res X.K E σ W3 H3 s3.r (Rs.ok (.tuple (cutD ys a b)) s3) fun d x W' H' => ∀ v, IsD X.K W' H' v d → Q v H' := h3
        rw [e1] at h3'
        exact h3' W3 H3 R3 .refl _ (.tup f z hs)
      · have g := Fok.new (p := q) (o := .frz o (.tup (cutV xs a b))) R3.fok hq
        exact h3 W3 _ (g.rel R3) g.ext _ (.tup (TupR.new hc hd) (Nat.le_trans (cutD_len ys a b) z) ((cut_isd hs a b).lat g.lat))
  | _ => exact h3.elim

/-! ### index of flat things -/
def ixOf (y : PyData) : List PyData → Nat → Option Nat
  | [], _ => none
  | z :: zs, n => if PyData.eqv z y = true then some n else ixOf y zs (n + 1)
theorem ixOf_some : ∀ {zs : List PyData} {y : PyData} {n j : Nat}, ixOf y zs n = some j → ∃ k z, j = n + k ∧ zs[k]? = some z ∧ PyData.eqv z y = true ∧ ∀ (m : Nat) (z' : PyData), m < k → zs[m]? = some z' → PyData.eqv z' y = false
  | [], y, n, j, h => by simp [ixOf] at h
  | z :: zs, y, n, j, h => by
    unfold ixOf at h
    split at h
    · rename_i hz
      cases h
      exact ⟨0, z, rfl, rfl, hz, fun m _ hm => absurd hm (Nat.not_lt_zero _)⟩
    · rename_i hz
      obtain ⟨k, z2, e1, e2, e3, e4⟩ := ixOf_some h
      refine ⟨k + 1, z2, by omega, by simpa using e2, e3, fun m z' hm hz' => ?_⟩
      cases m with
      | zero =>
        simp at hz'
        subst hz'
        simpa using hz
      | succ m => exact e4 m z' (by omega) (by simpa using hz')
/-- its place among flat things -/
def ixFlat (y : PyData) (ys : List PyData) : Option PyData := if flatD y && ys.all flatD then (ixOf y ys 0).map fun j => .int (j : Nat) else none
def rIndexT (K : PySem.W.Frag) : V → List V → Hp → VK → Prop := fun x xs H Q => ∃ (a : Addr) (ys : List V) (y : V) (j : Nat) (z : V), x = V.ref a ∧ xs = [y] ∧ SqT K H a ys ∧ flatV y = true ∧ ys.all flatV = true ∧ ys[j]? = some z ∧ eqV z y = true ∧
  (∀ (m : Nat) (z' : V), m < j → ys[m]? = some z' → eqV z' y = false) ∧ Q (.int (j : Nat)) H
theorem mt_indexT : MtR X "tuple.index" (rIndexT X.K) := by
  intro pins s σ H x xs v us Q I rx rxs h
  obtain ⟨a, ys, y, j, z, rfl, rfl, hs, fy, fys, hz, hzj, hno, q⟩ := h
  cases rx
  obtain ⟨uy, rfl, ry⟩ := vals1 rxs
  obtain ⟨its, rv, ⟨⟨cls, dd, dt, sl⟩, ho, hc, n, hd⟩, hlen⟩ := I.tuple hs
  simp only at hc hd
  subst hc hd
  obtain ⟨u, hu, ru⟩ := rv.get hz
  obtain ⟨hjl, hje⟩ := List.getElem?_eq_some_iff.mp hu
  have hvl := rv.length
  have hj : j < its.toArray.size := by simpa using hjl
  refine call_meets PySem.F.slot_tuple_index ⟨_, ho, rfl⟩ PySem.F.entry_tuple_index (PySem.F.args_tuple_index_2 _ _)
    (TI.tuple_indexAt a its.toArray n dd sl uy (eqU y) j hj ?_ ?_) ⟨ho, fun u' hu' => mem_eqAt ry fy rv fys u' (by simpa using hu'), ⟨.int (j : Nat), H, I.tok _, ⟨_, rfl⟩, q⟩⟩
  · have e1 : its.toArray[j] = u := by simpa using hje
    rw [e1, eqU_of ru (flat_at fys hz)]
    exact hzj
  · intro m hm hmj
    have hml : m < its.length := by simpa using hm
    have hmy : m < ys.length := by omega
    have hy' : ys[m]? = some ys[m] := List.getElem?_eq_getElem hmy
    obtain ⟨u2, hu2, ru2⟩ := rv.get hy'
    obtain ⟨_, hme⟩ := List.getElem?_eq_some_iff.mp hu2
    have e1 : its.toArray[m] = u2 := by simpa using hme
    rw [e1, eqU_of ru2 (flat_at fys hy')]
    exact hno m _ hmj hy'
/-- o.m(e) of a tuple -/
def tBMT (K : PySem.W.Frag) (r : V → List V → Hp → VK → Prop) (to : TE) (t : TA) : TE := fun σ H Q => to σ H fun x H1 => (∃ p xs, x = .ref p ∧ TupR H1 p xs) ∧ t σ H1 fun xs H2 => r x xs H2 Q
theorem pe_bmT {to : TE} {t : TA} {name : Str} {apos cpos : Pos} {r : V → List V → Hp → VK → Prop} (pa : PlainAttrs "tuple") (slot : PySem.Slot "tuple" name id) (hty : typeOf (.builtin id) = pure (.type "method_descriptor")) (hm : MtR X id r) (ho : PE X o to) (ha : PA X (e :: es) t)
    (hbase : attributeBase o name X.env (eval o X.env) = eval o X.env := by rfl)
    (hfew : ((backTo cpos (starEach (e :: es) X.env)).all (fun x => !x.1) && (backToKw cpos (keywordEach [] X.env)).all (fun x => x.1.isSome)
      && decide ((e :: es).length + ([] : List Keyword).length + (if ([] : List Keyword).isEmpty then 0 else 1) < 30)) = true := by rfl)
    (hline : (apos.endLine == cpos.line) = true := by rfl) (hs : starEach (e :: es) X.env = (false, eval e X.env) :: starEach es X.env := by rfl) (hplain : (backTo cpos (starEach es X.env)).any (·.1) = false := by rfl) :
    PE X (.Call (.Attribute o name apos) (e :: es) [] cpos) (tBMT X.K r to t) := by
  refine ⟨fun pins s σ H Q I h => ?_⟩
  refine wpAny_Call_method_late hbase hfew hline rfl (thn (ho.run pins s σ H _ I h) fun v s1 ⟨x, H1, I1, r1, ⟨p, xs, ex, o', ho', hc', hd'⟩, q1⟩ => ?_)
  subst ex
  obtain rfl : v = Value.ref p := r1
  obtain ⟨hg, _⟩ := I1.hok p _ ho'
  refine ⟨"tuple", id, pa, slot, hty, ⟨o', hg, hc'⟩, fun a ea => by cases ea; exact ⟨o', hg, hd'⟩, ?_⟩
  have hA := ha.run cpos pins s1 σ H1 _ I1 q1
  rw [hs] at hA ⊢
  refine Calls.callWith_builtin (by show (false || (backTo cpos (starEach es X.env)).any (·.1)) = false; rw [hplain] <;> rfl) (Calls.evalArgs_plain ?_)
  exact thn hA fun us s2 ⟨vs, H2, I2, r2, q2⟩ => hm pins s2 σ H2 (.ref p) vs _ us Q I2 rfl r2 q2
/-- t.index(e), l.index(e) -/
def eIdxT (fo fa : ED) : ED := fun st => (fo st).bind fun x s1 => match x with
  | .tuple ys => (fa s1).bind fun y s2 => match ixFlat y ys with
    | some d => .ok d s2
    | none => .bad
  | _ => .bad
theorem ixFlat_read {K : PySem.W.Frag} {W : Wd} {H : Hp} {xs : List V} {ys : List PyData} {v : V} {y d : PyData} (hxs : IsDs K W H xs ys) (hv : IsD K W H v y) (e : ixFlat y ys = some d) :
    ∃ j z, d = .int (j : Nat) ∧ flatV v = true ∧ xs.all flatV = true ∧ xs[j]? = some z ∧ eqV z v = true ∧ ∀ (m : Nat) (z' : V), m < j → xs[m]? = some z' → eqV z' v = false := by
  unfold ixFlat at e
  split at e
  · rename_i hc
    rw [Bool.and_eq_true] at hc
    cases ej : ixOf y ys 0 with
    | none => rw [ej] at e; cases e
    | some j =>
      rw [ej] at e
      cases e
      obtain ⟨k, z, e1, e2, e3, e4⟩ := ixOf_some ej
      have ek : j = k := by omega
      subst ek
      obtain ⟨u, hu, hz⟩ := hxs.get e2
      have fz : flatD z = true := List.all_eq_true.mp hc.2 z (List.mem_of_getElem? e2)
      refine ⟨j, u, rfl, flat_isd hv hc.1, flats_isd hxs hc.2, hu, by rw [eqv_isd hz hv fz hc.1]; exact e3, fun m z' hm hz' => ?_⟩
      have hml : m < ys.length := by rw [← hxs.length]; exact (List.getElem?_eq_some_iff.mp hz').1
      obtain ⟨u2, hu2, hz2⟩ := hxs.get (List.getElem?_eq_getElem hml)
      rw [hz'] at hu2
      cases hu2
      rw [eqv_isd hz2 hv (List.all_eq_true.mp hc.2 _ (List.getElem_mem hml)) hc.1]
      exact e4 m _ hm (List.getElem?_eq_getElem hml)
  · cases e
theorem de_idxT {apos : Pos} (ho : PE X o (tD X.K E fa)) (ha : PE X e (tD X.K E fb)) (hbase : attributeBase o "index" X.env (eval o X.env) = eval o X.env := by rfl) (hline : (apos.endLine == pos.line) = true := by rfl)
    (hfew : ((backTo pos (starEach [e] X.env)).all (fun x => !x.1) && (backToKw pos (keywordEach [] X.env)).all (fun x => x.1.isSome) && decide ([e].length + ([] : List Keyword).length + (if ([] : List Keyword).isEmpty then 0 else 1) < 30)) = true := by rfl)
    (hs : starEach [e] X.env = (false, eval e X.env) :: starEach [] X.env := by rfl) : PE X (.Call (.Attribute o "index" apos) [e] [] pos) (tD X.K E (eIdxT fa fb)) := by
  refine pe_imp (pe_bmT PySem.F.plainAttrs_tuple PySem.F.slot_tuple_index PySem.F.type_tuple_index mt_indexT ho (pa_cons ha pa_nil hs) hbase hfew hline hs) fun σ H Q h => ?_
  obtain ⟨W, st, R, h⟩ := h
  refine tD_of R (h.then.imp fun x s1 W1 H1 _ R1 X1 h1 v hv => ?_)
  cases x with
  | tuple ys =>
    cases hv with
    | @tup p xs _ f z hxs =>
      refine ⟨⟨p, xs, rfl, f⟩, tD_of R1 (h1.then.imp fun y s2 W2 H2 _ R2 X2 h2 u hu => ?_)⟩
      cases ex : ixFlat y ys with
      | none => rw [ex] at h2; exact h2.elim
      | some d =>
        rw [ex] at h2
        obtain ⟨j, zz, rfl, q1, q2, q3, q4, q5⟩ := ixFlat_read (hxs.lat (R1.lat X2)) hu ex
        exact ⟨p, xs, u, j, zz, rfl, rfl, (f.lat (R1.lat X2)).sq, q1, q2, q3, q4, q5, h2 W2 H2 R2 .refl _ (.int _)⟩
  | _ => exact h1.elim
end
end DL
/-! DE: targets, walked things, loops, comprehensions, statements. -/
namespace DL
open PySem PySem.Spec PyProof.Rows L2
section
variable {K : PySem.W.Frag} {W W' : Wd} {H H' : Hp} {σ : L2.St} {st : Sta}
/-- a slot holds data -/
theorem Rel.setVal (R : Rel K W H σ st) (i : Nat) {v : V} {d : PyData} (hv : IsD K W H v d) : Rel K W H (σ.set i (some v)) { st with r := st.r.set i (.val d) } ∧ Ext W H σ st.r W H (σ.set i (some v)) (st.r.set i (.val d)) := by
  refine ⟨⟨fun j e hj => ?_, fun j l hj => ?_, fun j k l l' a hj hk q1 q2 => ?_, by simpa using R.len, R.sl, R.nd, R.sto, R.fok, R.lf⟩, ⟨fun _ h => h, fun _ h => .inl h, ⟨[], by simp, fun _ h => nomatch h⟩, fun _ _ h _ _ => h, fun _ h => h, fun a ha => ?_⟩⟩
  · by_cases hij : j = i
    · subst hij
      have hlt : j < st.r.length := by
        have := (List.getElem?_eq_some_iff.mp hj).1
        simpa using this
      rw [List.getElem?_set_self hlt] at hj
      cases hj
      exact ⟨v, List.getElem?_set_self (by rw [R.len]; exact hlt), hv⟩
    · rw [List.getElem?_set_ne (Ne.symm hij)] at hj
      obtain ⟨u, q, z⟩ := R.val j e hj
      exact ⟨u, by rw [List.getElem?_set_ne (Ne.symm hij)]; exact q, z⟩
  · by_cases hij : j = i
    · subst hij
      have hlt : j < st.r.length := by
        have := (List.getElem?_eq_some_iff.mp hj).1
        simpa using this
      rw [List.getElem?_set_self hlt] at hj
      cases hj
    · rw [List.getElem?_set_ne (Ne.symm hij)] at hj
      obtain ⟨a, xs, q, z⟩ := R.own j l hj
      exact ⟨a, xs, by rw [List.getElem?_set_ne (Ne.symm hij)]; exact q, z⟩
  · have nj : j ≠ i := fun z => by
      subst z
      have hlt : j < st.r.length := by simpa using (List.getElem?_eq_some_iff.mp hj).1
      rw [List.getElem?_set_self hlt] at hj; cases hj
    have nk : k ≠ i := fun z => by
      subst z
      have hlt : k < st.r.length := by simpa using (List.getElem?_eq_some_iff.mp hk).1
      rw [List.getElem?_set_self hlt] at hk; cases hk
    rw [List.getElem?_set_ne (Ne.symm nj)] at hj q1
    rw [List.getElem?_set_ne (Ne.symm nk)] at hk q2
    exact R.dj j k l l' a hj hk q1 q2
  · obtain ⟨j, l, hj, q⟩ := ha
    have nj : j ≠ i := fun z => by
      subst z
      have hlt : j < st.r.length := by simpa using (List.getElem?_eq_some_iff.mp hj).1
      rw [List.getElem?_set_self hlt] at hj; cases hj
    rw [List.getElem?_set_ne (Ne.symm nj)] at hj q
    exact .inl ⟨j, l, hj, q⟩
/-- a slot gets a new list of its own -/
theorem Rel.setOwn (R : Rel K W H σ st) (i : Nat) {p : Addr} {ds : List PyData} (hp : Fre K W H σ st.r p ds) : Rel K W H (σ.set i (some (.ref p))) { st with r := st.r.set i (.own ds) } ∧
    ∀ W0 H0 r0 σ0, Ext W0 H0 σ0 r0 W H σ st.r → H0 p = none → Ext W0 H0 σ0 r0 W H (σ.set i (some (.ref p))) (st.r.set i (.own ds)) := by
  obtain ⟨⟨xs, e, hxs⟩, z, nf, nl, no⟩ := hp
  have ow : ∀ a, Own (σ.set i (some (.ref p))) (st.r.set i (.own ds)) a → Own σ st.r a ∨ a = p := fun a ⟨j, l, hj, q⟩ => by
    by_cases hij : j = i
    · subst hij
      have hlt : j < st.r.length := by simpa using (List.getElem?_eq_some_iff.mp hj).1
      rw [List.getElem?_set_self (by rw [R.len]; exact hlt)] at q
      cases q
      exact .inr rfl
    · rw [List.getElem?_set_ne (Ne.symm hij)] at hj q
      exact .inl ⟨j, l, hj, q⟩
  refine ⟨⟨fun j d hj => ?_, fun j l hj => ?_, fun j k l l' a hj hk q1 q2 => ?_, by simpa using R.len, R.sl, R.nd, R.sto, R.fok, R.lf⟩, fun W0 H0 r0 σ0 X hn => ⟨X.f, X.fn, X.l, X.keep, X.dom, fun a ha => ?_⟩⟩
  · by_cases hij : j = i
    · subst hij
      have hlt : j < st.r.length := by simpa using (List.getElem?_eq_some_iff.mp hj).1
      rw [List.getElem?_set_self hlt] at hj
      cases hj
    · rw [List.getElem?_set_ne (Ne.symm hij)] at hj
      obtain ⟨u, q, z⟩ := R.val j d hj
      exact ⟨u, by rw [List.getElem?_set_ne (Ne.symm hij)]; exact q, z⟩
  · by_cases hij : j = i
    · subst hij
      have hlt : j < st.r.length := by simpa using (List.getElem?_eq_some_iff.mp hj).1
      rw [List.getElem?_set_self hlt] at hj
      cases hj
      exact ⟨p, xs, List.getElem?_set_self (by rw [R.len]; exact hlt), e, hxs, nf, nl, z⟩
    · rw [List.getElem?_set_ne (Ne.symm hij)] at hj
      obtain ⟨a, xs, q, z⟩ := R.own j l hj
      exact ⟨a, xs, by rw [List.getElem?_set_ne (Ne.symm hij)]; exact q, z⟩
  · by_cases hji : j = i
    · by_cases hki : k = i
      · rw [hji, hki]
      · exfalso
        subst hji
        have hlt : j < st.r.length := by simpa using (List.getElem?_eq_some_iff.mp hj).1
        rw [List.getElem?_set_self (by rw [R.len]; exact hlt)] at q1
        cases q1
        rw [List.getElem?_set_ne (Ne.symm hki)] at hk q2
        exact no ⟨k, l', hk, q2⟩
    · by_cases hki : k = i
      · exfalso
        subst hki
        have hlt : k < st.r.length := by simpa using (List.getElem?_eq_some_iff.mp hk).1
        rw [List.getElem?_set_self (by rw [R.len]; exact hlt)] at q2
        cases q2
        rw [List.getElem?_set_ne (Ne.symm hji)] at hj q1
        exact no ⟨j, l, hj, q1⟩
      · rw [List.getElem?_set_ne (Ne.symm hji)] at hj q1
        rw [List.getElem?_set_ne (Ne.symm hki)] at hk q2
        exact R.dj j k l l' a hj hk q1 q2
  · rcases ow a ha with h | h
    · exact X.on a h
    · subst h; exact .inr hn
/-- a list of one's own is changed -/
theorem Rel.updOwn (R : Rel K W H σ st) {i : Nat} {l l' : List PyData} {a : Addr} {ys : List V} (h : st.r[i]? = some (.own l)) (ha : σ[i]? = some (some (.ref a))) (hys : IsDs K W H ys l') (z : l'.length ≤ sizeLine) :
    Rel K W (upd H a (.lst ys)) σ { st with r := st.r.set i (.own l') } ∧ Ext W H σ st.r W (upd H a (.lst ys)) σ (st.r.set i (.own l')) := by
  obtain ⟨b, xs, e1, e2, e3, e4, e5, e6⟩ := R.own i l h
  rw [ha] at e1
  cases e1
  have hi : i < st.r.length := (List.getElem?_eq_some_iff.mp h).1
  have oa : Own σ st.r a := ⟨i, l, h, ha⟩
  have ow : ∀ b, Own σ (st.r.set i (.own l')) b → Own σ st.r b := fun b ⟨j, m, hj, q⟩ => by
    by_cases hij : j = i
    · subst hij; exact ⟨j, l, h, q⟩
    · rw [List.getElem?_set_ne (Ne.symm hij)] at hj
      exact ⟨j, m, hj, q⟩
  have L0 : Lat W H W (upd H a (.lst ys)) := ⟨fun _ h => h, fun _ _ h => h, fun b o hb e => by rw [upd_ne (fun q => e4 (by rw [← q]; exact hb))]; exact e,
    fun b zs e => by rw [upd_ne (fun q => by rw [q, e2] at e; cases e)]; exact e, fun b o u e _ => by rw [upd_ne (fun q => by rw [q, e2] at e; cases e)]; exact e⟩
  refine ⟨⟨fun j d hj => ?_, fun j m hj => ?_, fun j k l1 l2 b hj hk q1 q2 => ?_, by simpa using R.len, R.sl, R.nd, fun n b o hb ho => ?_, fun b hb => ?_, R.lf⟩, ⟨fun _ h => h, fun _ h => .inl h, ⟨[], by simp, fun _ h => nomatch h⟩, fun b o e _ no => ?_, fun b hb => ?_, fun b hb => .inl (ow b hb)⟩⟩
  · have nj : j ≠ i := fun z => by subst z; rw [List.getElem?_set_self hi] at hj; cases hj
    rw [List.getElem?_set_ne (Ne.symm nj)] at hj
    obtain ⟨v, q, z⟩ := R.val j d hj
    exact ⟨v, q, z.lat L0⟩
  · by_cases hij : j = i
    · subst hij
      rw [List.getElem?_set_self hi] at hj
      cases hj
      exact ⟨a, ys, ha, upd_same, hys.lat L0, e4, e5, z⟩
    · rw [List.getElem?_set_ne (Ne.symm hij)] at hj
      obtain ⟨b, zs, q1, q2, q3, q4, q5, q6⟩ := R.own j m hj
      have nb : b ≠ a := fun q => hij (R.dj j i m l b hj h q1 (by rw [q]; exact ha))
      exact ⟨b, zs, q1, by rw [upd_ne nb]; exact q2, q3.lat L0, q4, q5, q6⟩
  · have fj : ∃ m, st.r[j]? = some (.own m) := by
      by_cases hij : j = i
      · subst hij; exact ⟨l, h⟩
      · rw [List.getElem?_set_ne (Ne.symm hij)] at hj; exact ⟨_, hj⟩
    have fk : ∃ m, st.r[k]? = some (.own m) := by
      by_cases hij : k = i
      · subst hij; exact ⟨l, h⟩
      · rw [List.getElem?_set_ne (Ne.symm hij)] at hk; exact ⟨_, hk⟩
    obtain ⟨m1, f1⟩ := fj
    obtain ⟨m2, f2⟩ := fk
    exact R.dj j k m1 m2 b f1 f2 q1 q2
  · have nb : b ≠ a := fun q => e5 (by rw [← q]; exact List.mem_of_getElem? hb)
    have q := R.sto n b o hb ho
    cases o with
    | lst m =>
      obtain ⟨zs, q1, q2, q3⟩ := q
      exact ⟨zs, by rw [upd_ne nb]; exact q1, q2.lat L0, q3⟩
  · obtain ⟨zs, q⟩ := R.fok b hb
    exact ⟨zs, by rw [upd_ne (fun q' => e4 (by rw [← q']; exact hb))]; exact q⟩
  · rw [upd_ne (fun q => no (by rw [q]; exact oa))]
    exact e
  · by_cases q : b = a
    · subst q; rw [upd_same]; simp
    · rw [upd_ne q]; exact hb
/-- a list in the store is changed -/
theorem Rel.updSto (R : Rel K W H σ st) {n : Nat} {l' : List PyData} {a : Addr} {ys : List V} (ha : W.L[n]? = some a) (hys : IsDs K W H ys l') (z : l'.length ≤ sizeLine) :
    Rel K W (upd H a (.lst ys)) σ { st with s := st.s.set n (.lst l') } ∧ Ext W H σ st.r W (upd H a (.lst ys)) σ st.r := by
  have hn : n < W.L.length := (List.getElem?_eq_some_iff.mp ha).1
  have hns : n < st.s.length := by rw [← R.sl]; exact hn
  have hal : a ∈ W.L := List.mem_of_getElem? ha
  have hold : ∃ xs, H a = some (.lst xs) := by
    have q := R.sto n a _ ha (List.getElem?_eq_getElem hns)
    cases e3 : st.s[n] with
    | lst l => rw [e3] at q; obtain ⟨xs, q, _⟩ := q; exact ⟨xs, q⟩
  obtain ⟨xs0, e2⟩ := hold
  have L0 : Lat W H W (upd H a (.lst ys)) := ⟨fun _ h => h, fun _ _ h => h, fun b o hb e => by rw [upd_ne (fun q => R.lf a hal (by rw [← q]; exact hb))]; exact e,
    fun b zs e => by rw [upd_ne (fun q => by rw [q, e2] at e; cases e)]; exact e, fun b o u e _ => by rw [upd_ne (fun q => by rw [q, e2] at e; cases e)]; exact e⟩
  refine ⟨⟨fun j d hj => ?_, fun j m hj => ?_, R.dj, R.len, by simpa using R.sl, R.nd, fun k b o hb ho => ?_, fun b hb => ?_, R.lf⟩, ⟨fun _ h => h, fun _ h => .inl h, ⟨[], by simp, fun _ h => nomatch h⟩, fun b o e nl _ => ?_, fun b hb => ?_, fun b hb => .inl hb⟩⟩
  · obtain ⟨v, q, z⟩ := R.val j d hj
    exact ⟨v, q, z.lat L0⟩
  · obtain ⟨b, zs, q1, q2, q3, q4, q5, q6⟩ := R.own j m hj
    have nb : b ≠ a := fun q => q5 (by rw [q]; exact hal)
    exact ⟨b, zs, q1, by rw [upd_ne nb]; exact q2, q3.lat L0, q4, q5, q6⟩
  · have ho' : (st.s.set n (.lst l'))[k]? = some o := ho
    by_cases hk : k = n
    · subst hk
      rw [List.getElem?_set_self hns] at ho'
      cases ho'
      rw [ha] at hb
      cases hb
      exact ⟨ys, upd_same, hys.lat L0, z⟩
    · rw [List.getElem?_set_ne (Ne.symm hk)] at ho'
      have nb : b ≠ a := fun q => hk (by
        subst q
        have h1 := (List.getElem?_eq_some_iff.mp hb)
        have h2 := (List.getElem?_eq_some_iff.mp ha)
        exact (List.getElem_inj R.nd).mp (h1.2.trans h2.2.symm))
      have q := R.sto k b o hb ho'
      cases o with
      | lst m =>
        obtain ⟨zs, q1, q2, q3⟩ := q
        exact ⟨zs, by rw [upd_ne nb]; exact q1, q2.lat L0, q3⟩
  · obtain ⟨zs, q⟩ := R.fok b hb
    exact ⟨zs, by rw [upd_ne (fun q' => R.lf a hal (by rw [← q']; exact hb))]; exact q⟩
  · rw [upd_ne (fun q => nl (by rw [q]; exact hal))]
    exact e
  · by_cases q : b = a
    · subst q; rw [upd_same]; simp
    · rw [upd_ne q]; exact hb
end

/-! ### targets -/
abbrev TGT := PyData → Sta → Option Sta
/-- data, or a pair that is taken apart at once -/
def IsW (K : PySem.W.Frag) (W : Wd) (H : Hp) (w : Bool) (v : V) (d : PyData) : Prop := IsD K W H v d ∨ (w = true ∧ ∃ a xs ds, v = .ref a ∧ d = .tuple ds ∧ SqT K H a xs ∧ IsDs K W H xs ds)
/-- the slots other than these stand -/
def Off (is : List Nat) (σ σ' : L2.St) : Prop := σ'.length = σ.length ∧ ∀ i, i ∉ is → σ'[i]? = σ[i]?
theorem Off.refl (is : List Nat) (σ : L2.St) : Off is σ σ := ⟨rfl, fun _ _ => rfl⟩
theorem Off.trans {is js : List Nat} {σ σ1 σ2 : L2.St} (a : Off is σ σ1) (b : Off js σ1 σ2) : Off (is ++ js) σ σ2 := ⟨b.1.trans a.1, fun i hi => (b.2 i fun h => hi (List.mem_append_right _ h)).trans (a.2 i fun h => hi (List.mem_append_left _ h))⟩
theorem Off.set (i : Nat) (σ : L2.St) (x : Option V) : Off [i] σ (σ.set i x) := ⟨List.length_set, fun j hj => List.getElem?_set_ne (fun e => hj (by rw [e]; exact List.mem_singleton.mpr rfl))⟩
def tG (K : PySem.W.Frag) (w : Bool) (is : List Nat) (g : TGT) : TG := fun v σ H Q => ∃ W st d st', Rel K W H σ st ∧ IsW K W H w v d ∧ g d st = some st' ∧ ∀ σ', Off is σ σ' → Rel K W H σ' st' → Ext W H σ st.r W H σ' st'.r → Q σ' H
def tGs (K : PySem.W.Frag) (is : List Nat) (g : List PyData → Sta → Option Sta) : TGs := fun vs σ H Q => ∃ W st ds st', Rel K W H σ st ∧ IsDs K W H vs ds ∧ g ds st = some st' ∧ ∀ σ', Off is σ σ' → Rel K W H σ' st' → Ext W H σ st.r W H σ' st'.r → Q σ' H
def gN (i : Nat) : TGT := fun d st => some { st with r := st.r.set i (.val d) }
def gT (n : Nat) (gs : List PyData → Sta → Option Sta) : TGT := fun d st => match d with
  | .tuple ds => if ds.length = n then gs ds st else none
  | .list ds => if ds.length = n then gs ds st else none
  | _ => none
def gsNil : List PyData → Sta → Option Sta := fun ds st => match ds with
  | [] => some st
  | _ => none
def gsCons (g : TGT) (gs : List PyData → Sta → Option Sta) : List PyData → Sta → Option Sta := fun ds st => match ds with
  | d :: r => (g d st).bind (gs r)
  | [] => none
section
variable {X : Cx} {pos : Pos} {E : EX} {w : Bool}
theorem pg_imp {tg : Expr} {t t' : TG} (h : PG X tg t) (i : ∀ v σ H Q, t' v σ H Q → t v σ H Q) : PG X tg t' := ⟨fun pins s σ H v u Q I r q => h.run pins s σ H v u Q I r (i v σ H Q q)⟩
theorem pgs_imp {tg : List Expr} {t t' : TGs} (h : PGs X tg t) (i : ∀ v σ H Q, t' v σ H Q → t v σ H Q) : PGs X tg t' := ⟨fun pins s σ H v u Q I r q => h.run pins s σ H v u Q I r (i v σ H Q q)⟩
theorem dg_name (i : Nat) {x : Str} (hN : X.N.Nodup) (hi : X.N[i]? = some x := by rfl) (hx : Loc X.env.scope x := by first | exact Or.inl rfl | exact Or.inr rfl) (hf : X.fn x = true ∨ X.env.scope.names.lookup x = some .local := by first | exact .inl rfl | exact .inr rfl) :
    PG X (.Name x pos) (tG X.K false [i] (gN i)) := by
  refine pg_imp (pg_name hN hi hx hf) fun v σ H Q ⟨W, st, d, st', R, hv, e, q⟩ => ?_
  rcases hv with hv | ⟨h, _⟩
  · cases e
    obtain ⟨R', X'⟩ := R.setVal i hv
    exact q _ (.set i σ _) R' X'
  · cases h
theorem dgs_nil : PGs X [] (tGs X.K [] gsNil) := by
  refine pgs_imp pgs_nil fun vs σ H Q ⟨W, st, ds, st', R, hv, e, q⟩ => ?_
  unfold gsNil at e
  split at e
  · cases hv
    cases e
    exact ⟨rfl, q σ (.refl _ _) R .refl⟩
  · cases e
theorem dgs_cons {e : Expr} {es : List Expr} {g : TGT} {gs : List PyData → Sta → Option Sta} {is js : List Nat} (h1 : PG X e (tG X.K false is g)) (h2 : PGs X es (tGs X.K js gs)) (hs : (assignEach (e :: es) X.env).map (·.2) = assign e X.env :: (assignEach es X.env).map (·.2) := by rfl) :
    PGs X (e :: es) (tGs X.K (is ++ js) (gsCons g gs)) := by
  refine pgs_imp (pgs_cons h1 h2 hs) fun vs σ H Q ⟨W, st, ds, st', R, hv, e, q⟩ => ?_
  unfold gsCons at e
  split at e
  · rename_i d r
    cases hv with
    | @cons v vs _ _ hv hvs =>
      refine ⟨v, vs, rfl, ?_⟩
      cases eg : g d st with
      | none => rw [eg] at e; cases e
      | some st1 =>
        rw [eg] at e
        refine ⟨W, st, d, st1, R, .inl hv, eg, fun σ1 o1 R1 X1 => ⟨W, st1, r, st', R1, hvs, e, fun σ2 o2 R2 X2 => q σ2 (o1.trans o2) R2 (X1.trans X2)⟩⟩
  · cases e
theorem pg_or {e : Expr} {t t' : TG} (h : PG X e t) (h' : PG X e t') : PG X e (fun v σ H Q => t v σ H Q ∨ t' v σ H Q) := ⟨fun pins s σ H v u Q I r q => q.elim (h.run pins s σ H v u Q I r) (h'.run pins s σ H v u Q I r)⟩
theorem dg_tup {es : List Expr} {k n : Nat} {is : List Nat} {gs : List PyData → Sta → Option Sta} (hc : X.calm = true) (h : PGs X es (tGs X.K is gs)) (hn : (assignEach es X.env).length = n := by rfl) (hst : (assignEach es X.env).findIdx? (·.1) = none := by rfl) :
    PG X (.Tuple es k pos) (tG X.K w is (gT n gs)) := by
  refine pg_imp (pg_or (pg_tup hc h hn hst) (pg_unl hc h hn hst)) fun v σ H Q ⟨W, st, d, st', R, hv, e, q⟩ => ?_
  have key : ∃ a xs ds, v = .ref a ∧ (d = .tuple ds ∧ SqT X.K H a xs ∨ d = .list ds ∧ SqL X.K H a xs) ∧ IsDs X.K W H xs ds := by
    rcases hv with hv | ⟨_, a, xs, ds, e1, e2, h1, h2⟩
    · unfold gT at e
      cases hv with
      | tup f z hs => exact ⟨_, _, _, rfl, .inl ⟨rfl, f.sq⟩, hs⟩
      | lst f z hs => exact ⟨_, _, _, rfl, .inr ⟨rfl, f.sq⟩, hs⟩
      | _ => cases e
    · exact ⟨a, xs, ds, e1, .inl ⟨e2, h1⟩, h2⟩
  obtain ⟨a, xs, ds, rfl, ⟨rfl, hq⟩ | ⟨rfl, hq⟩, hxs⟩ := key
  · unfold gT at e
    dsimp only at e
    split at e
    · rename_i hl
      exact .inl ⟨a, xs, rfl, hq, by rw [hxs.length]; exact hl, W, st, ds, st', R, hxs, e, q⟩
    · cases e
  · unfold gT at e
    dsimp only at e
    split at e
    · rename_i hl
      exact .inr ⟨a, xs, rfl, hq, by rw [hxs.length]; exact hl, W, st, ds, st', R, hxs, e, q⟩
    · cases e
theorem dg_weak {tg : Expr} {is : List Nat} {g : TGT} (h : PG X tg (tG X.K true is g)) : PG X tg (tG X.K false is g) := pg_imp h fun v σ H Q ⟨W, st, d, st', R, hv, e, q⟩ => ⟨W, st, d, st', R, hv.imp id fun h => absurd h.1 (by decide), e, q⟩

/-! ### what is walked -/
/-- the iterator hands out ds -/
def ItOk (K : PySem.W.Frag) (w : Bool) (J : It) (W : Wd) (H : Hp) (ds : List PyData) : Prop := ds.length ≤ sizeLine ∧ ∀ i W2 H2, Lat W H W2 H2 → Fok W2 H2 →
  (∀ d, ds[i]? = some d → J.go i H2 ∧ ∀ x H3, J.yld i H2 x H3 → ∃ W3, Grow W2 H2 W3 H3 ∧ IsW K W3 H3 w x d) ∧ (i = ds.length → J.stop i H2)
def tI (K : PySem.W.Frag) (E : EX) (w : Bool) (f : EL) : TI := fun σ H R => ∃ W st, Rel K W H σ st ∧ Res K E σ W H st.r (f st) fun ds _ W' H' => ∀ J, ItOk K w J W' H' ds → R J H'
theorem pi_imp {tg e : Expr} {t t' : TI} (h : PI X tg e t) (i : ∀ σ H R, t' σ H R → t σ H R) : PI X tg e t' := ⟨fun pins s σ H R I q => h.run pins s σ H R I (i σ H R q)⟩
/-- over a list or a tuple -/
def iSq (K : PySem.W.Frag) (tl : TE) : TI := fun σ H R => tl σ H fun x H1 => (∃ a, x = .ref a ∧ (∃ xs, SqL K H1 a xs) ∧ R (Itl K a) H1) ∨ ∃ a, x = .ref a ∧ (∃ xs, SqT K H1 a xs) ∧ R (Itt K a) H1
theorem pi_sq {tg l : Expr} {tl : TE} (hl : PE X l tl) : PI X tg l (iSq X.K tl) := by
  refine ⟨fun pins s σ H R I h => ?_⟩
  refine thn (hl.run pins s σ H _ I h) fun v s1 ⟨x, H1, I1, r1, q1⟩ => ?_
  rcases q1 with ⟨a, e, ⟨xs, hq⟩, q⟩ | ⟨a, e, ⟨xs, hq⟩, q⟩
  · subst e
    cases r1
    obtain ⟨its, rv, p, hz⟩ := I1.list hq
    refine wpAny_pyIter_list p.isList ?_
    refine ⟨s1.heap.objs.size, [s1.heap.objs.size], _, _, H1, rfl, I1.kept (t' := s1.toks) fun b o e => Heap.get?_push_of_some _ e, turn_list a _, ⟨_, Heap.get?_push_size _ rfl, rfl, rfl⟩, fun b hb => ?_, q⟩
    have e : b = s1.heap.objs.size := by simpa using hb
    subst e
    exact I1.fpOk (Nat.le_refl _) (I1.hok.fresh (Nat.le_refl _))
  · subst e
    cases r1
    obtain ⟨its, rv, p, hz⟩ := I1.tuple hq
    refine wpAny_pyIter_tuple (show s1.heap.IsTuple a its.toArray from p) ?_
    refine ⟨s1.heap.objs.size, [s1.heap.objs.size], _, _, H1, rfl, I1.kept (t' := s1.toks) fun b o e => Heap.get?_push_of_some _ e, turn_tuple a _, ⟨_, Heap.get?_push_size _ rfl, rfl, rfl⟩, fun b hb => ?_, q⟩
    have e : b = s1.heap.objs.size := by simpa using hb
    subst e
    exact I1.fpOk (Nat.le_refl _) (I1.hok.fresh (Nat.le_refl _))
def iSeq (fa : ED) : EL := fun st => (fa st).bind fun d s => match itemsOf d with
  | some ys => .ok ys s
  | none => .bad
theorem FrL.sqL {K : PySem.W.Frag} {W : Wd} {H : Hp} {a : Addr} {xs : List V} (h : FrL W H a xs) : SqL K H a xs := FrL.sq h
theorem itOk_list {K : PySem.W.Frag} {W : Wd} {H : Hp} {a : Addr} {xs : List V} {ds : List PyData} (f : FrL W H a xs) (z : ds.length ≤ sizeLine) (hs : IsDs K W H xs ds) : ItOk K w (Itl K a) W H ds := by
  refine ⟨z, fun i W2 H2 L fok => ⟨fun d hd => ?_, fun hi => ?_⟩⟩
  · obtain ⟨v, hv, hvd⟩ := hs.get hd
    refine ⟨⟨xs, v, (f.lat L).sq, hv⟩, fun x H3 ⟨e, hx⟩ => ?_⟩
    subst e
    have ex := hx xs (f.lat L).sq
    rw [hv] at ex
    cases ex
    exact ⟨W2, fok.refl, .inl (hvd.lat L)⟩
  · exact ⟨xs, (f.lat L).sq, by rw [hs.length]; omega⟩
theorem itOk_tup {K : PySem.W.Frag} {W : Wd} {H : Hp} {a : Addr} {xs : List V} {ds : List PyData} (f : TupR H a xs) (z : ds.length ≤ sizeLine) (hs : IsDs K W H xs ds) : ItOk K w (Itt K a) W H ds := by
  refine ⟨z, fun i W2 H2 L fok => ⟨fun d hd => ?_, fun hi => ?_⟩⟩
  · obtain ⟨v, hv, hvd⟩ := hs.get hd
    refine ⟨⟨xs, v, (f.lat L).sq, hv⟩, fun x H3 ⟨e, hx⟩ => ?_⟩
    subst e
    have ex := hx xs (f.lat L).sq
    rw [hv] at ex
    cases ex
    exact ⟨W2, fok.refl, .inl (hvd.lat L)⟩
  · exact ⟨xs, (f.lat L).sq, by rw [hs.length]; omega⟩
theorem di_seq {tg e : Expr} {fa : ED} (h : PE X e (tD X.K E fa)) : PI X tg e (tI X.K E w (iSeq fa)) := by
  refine pi_imp (pi_sq h) fun σ H R h => ?_
  obtain ⟨W, st, R0, h⟩ := h
  refine tD_of R0 (h.then.imp fun x s1 W1 H1 _ R1 X1 h1 v hv => ?_)
  cases hv with
  | lst f z hs => exact .inl ⟨_, rfl, ⟨_, f.sq⟩, h1 W1 H1 R1 .refl _ (itOk_list f z hs)⟩
  | tup f z hs => exact .inr ⟨_, rfl, ⟨_, f.sq⟩, h1 W1 H1 R1 .refl _ (itOk_tup f z hs)⟩
  | _ => exact h1.elim
def iRg1 (fa : ED) : EL := fun st => (fa st).bind fun x s1 => match x with
  | .int n => if -1000000 ≤ n ∧ n ≤ 1000000 then .ok (rgD 0 n) s1 else .bad
  | _ => .bad
def iRg2 (fa fb : ED) : EL := fun st => (fa st).bind fun x s1 => (fb s1).bind fun y s2 => match x, y with
  | .int m, .int n => if (-1000000 ≤ m ∧ m ≤ 1000000) ∧ -1000000 ≤ n ∧ n ≤ 1000000 then .ok (rgD m n) s2 else .bad
  | _, _ => .bad
theorem itOk_rg {K : PySem.W.Frag} {W : Wd} {H : Hp} {m n : Int} (h1 : -1000000 ≤ m ∧ m ≤ 1000000) (h2 : -1000000 ≤ n ∧ n ≤ 1000000) : ItOk K w (Itr m (n - m).toNat) W H (rgD m n) := by
  have hl : (rgD m n).length = (n - m).toNat := by unfold rgD; rw [List.length_map, List.length_range]
  refine ⟨by rw [hl, sizeLine_eq]; omega, fun i W2 H2 L fok => ⟨fun d hd => ?_, fun hi => ?_⟩⟩
  · have hi : i < (n - m).toNat := by rw [← hl]; exact (List.getElem?_eq_some_iff.mp hd).1
    refine ⟨hi, fun x H3 ⟨e, hx⟩ => ?_⟩
    subst e hx
    have ed : d = .int (m + (i : Nat)) := by
      unfold rgD at hd
      rw [List.getElem?_map, List.getElem?_range hi] at hd
      exact (Option.some.inj hd).symm
    subst ed
    exact ⟨W2, fok.refl, .inl (.int _)⟩
  · show (n - m).toNat ≤ i
    omega
theorem di_range1 {tg a : Expr} {p : Pos} {fa : ED} (hm : X.mg "range" = none) (ha : PE X a (tD X.K E fa)) (hg : Gl X "range" := by rfl) (hs : starEach [a] X.env = [(false, eval a X.env)] := by rfl) : PI X tg (.Call (.Name "range" p) [a] [] pos) (tI X.K E w (iRg1 fa)) := by
  refine pi_imp (pi_range1 hg hm (pa_cons ha pa_nil hs) hs) fun σ H R h => ?_
  obtain ⟨W, st, R0, h⟩ := h
  refine tD_of R0 (h.then.imp fun x s1 W1 H1 _ R1 X1 h1 v hv => ?_)
  cases x with
  | int n =>
    cases hv
    dsimp only at h1
    by_cases hb : -1000000 ≤ n ∧ n ≤ 1000000
    · rw [if_pos hb] at h1
      refine ⟨n, rfl, by omega, by omega, ?_⟩
      have q := h1 W1 H1 R1 .refl _ (itOk_rg (m := 0) (by omega) hb)
      rw [Int.sub_zero] at q
      exact q
    · rw [if_neg hb] at h1; exact h1.elim
  | _ => exact h1.elim
theorem di_range2 {tg a b : Expr} {p : Pos} {fa fb : ED} (hm : X.mg "range" = none) (ha : PE X a (tD X.K E fa)) (hb : PE X b (tD X.K E fb)) (hg : Gl X "range" := by rfl) (hs : starEach [a, b] X.env = [(false, eval a X.env), (false, eval b X.env)] := by rfl) (hs2 : starEach [b] X.env = [(false, eval b X.env)] := by rfl) :
    PI X tg (.Call (.Name "range" p) [a, b] [] pos) (tI X.K E w (iRg2 fa fb)) := by
  refine pi_imp (pi_range2 hg hm (pa_cons ha (pa_cons hb pa_nil hs2) (by rw [hs, hs2])) hs hs2) fun σ H R h => ?_
  obtain ⟨W, st, R0, h⟩ := h
  refine tD_of R0 (h.then.imp fun x s1 W1 H1 _ R1 X1 h1 v hv => tD_of R1 (h1.then.imp fun y s2 W2 H2 _ R2 X2 h2 u hu => ?_))
  have hv2 := hv.lat (R1.lat X2)
  cases x with
  | int m =>
    cases y with
    | int n =>
      cases hv2; cases hu
      dsimp only at h2
      by_cases hb : (-1000000 ≤ m ∧ m ≤ 1000000) ∧ -1000000 ≤ n ∧ n ≤ 1000000
      · rw [if_pos hb] at h2
        exact ⟨m, n, rfl, by omega, h2 W2 H2 R2 .refl _ (itOk_rg hb.1 hb.2)⟩
      · rw [if_neg hb] at h2; exact h2.elim
    | _ => exact h2.elim
  | _ => exact h2.elim
end
end DL
/-! DF: zip and enumerate over lists and tuples in any mix. -/
namespace DL
open PySem PySem.Spec PyProof.Rows L2
theorem meets_enumerate_newB1 {v : Value} {o : Obj} {H : Heap → Prop} (B : Begins v o H) :
    Meets (Builtin.«enumerate.__new__» ⟨[.type "enumerate", v], []⟩) (fun _ R s => H s.heap ∧
      R (.ok (.ret (.ref (s.heap.push o).objs.size))) { s with heap := (s.heap.push o).push { cls := .type "enumerate", data := .fields #[.none, .bool false, .ref s.heap.objs.size, rawInt 0, .none, .none] } }) :=
  .of_wp fun prog w A R s h => by
    obtain ⟨hp, g, d, tk, os⟩ := s; obtain ⟨h1, h⟩ := h
    have hsub := sub_enumerate
    have q1 : ∀ {A' : Around} {E : Value → Shared → Prop} {Q : Value → Shared → Prop}, Q (.ref hp.objs.size) ⟨hp.push o, g, d, tk, os⟩ → wpAny (model prog w) A' (pyIter v) Q E ⟨hp, g, d, tk, os⟩ :=
      fun q => B.iter prog w _ _ ⟨hp, g, d, tk, os⟩ _ h1 q
    wp_walk using q1
    refine wpAny_stack_any fun st => wpAny_pure ?_
    split
    · rename_i c _ _ _ _ _
      cases (c == Value.type "enumerate")
      · wp_walk using q1
        exact ⟨_, rfl, h⟩
      · wp_walk using q1
        exact ⟨_, rfl, h⟩
    · wp_walk using q1
      exact ⟨_, rfl, h⟩
theorem enum_begins1 {prog : Program} {w : World} {A : Around} {E : Value → Shared → Prop} {s : Shared} {v : Value} {o : Obj} {H : Heap → Prop} {Q : Value → Shared → Prop} (B : Begins v o H) (h1 : H s.heap)
    (h : ∀ h', IsEnum h' (s.heap.objs.size + 1) s.heap.objs.size 0 .none → h'.get? s.heap.objs.size = some o → h'.objs.size = s.heap.objs.size + 2 →
      (∀ b o, s.heap.get? b = some o → h'.get? b = some o) → Q (.ref (s.heap.objs.size + 1)) { s with heap := h' }) :
    wpAny (model prog w) A (call (.type "enumerate") [v]) Q E s := by
  refine callType_new F.called_enumerate (by decide) (F.typeCall_enumerate_1 _) (F.newCall_enumerate_1 _) (fun obj => F.args_object_init_2 obj _) F.entry_enumerate_new
    (meets_enumerate_newB1 B) ⟨h1, ?_⟩
  have hz : (s.heap.push o).objs.size = s.heap.objs.size + 1 := Heap.size_push ..
  show _ ∧ _
  rw [hz]
  have he : IsEnum ((s.heap.push o).push { cls := .type "enumerate", data := .fields #[.none, .bool false, .ref s.heap.objs.size, rawInt 0, .none, .none] }) (s.heap.objs.size + 1) s.heap.objs.size 0 .none := by
    have := Heap.get?_push_size (s.heap.push o) (o := { cls := .type "enumerate", data := .fields #[.none, .bool false, .ref s.heap.objs.size, rawInt 0, .none, .none] }) rfl
    rw [hz] at this; exact this
  refine ⟨⟨_, he, rfl⟩, h _ he (Heap.get?_push_of_some _ (Heap.get?_push_size _ B.free)) (by rw [Heap.size_push, hz]) fun b o x => Heap.get?_push_of_some _ (Heap.get?_push_of_some _ x)⟩

/-- a list or a tuple -/
inductive Kd where
  | l | t
def SqK (K : PySem.W.Frag) : Kd → Hp → Addr → List V → Prop
  | .l, H, a, xs => SqL K H a xs
  | .t, H, a, xs => SqT K H a xs
def ItK : Kd → Heap → Addr → Addr → Nat → Prop
  | .l, h, it, a, i => h.IsListIter it a i
  | .t, h, it, a, i => h.IsTupleIter it a i
def PlK : Kd → Heap → Addr → Array Value → Prop
  | .l, h, a, its => h.IsList a its
  | .t, h, a, its => h.IsTuple a its
def obK : Kd → Addr → Obj
  | .l, a => { cls := .type "list_iterator", data := .fields #[.ref a, .int 0 0] }
  | .t, a => { cls := .type "tuple_iterator", data := .fields #[.ref a, .int 0 0] }
theorem drK {prog : Program} {w : World} {A : Around} (hh : A.handled = none) (k : Kd) (it a : Addr) (hne : a ≠ it) (items : Array Value) : Draws prog w A it [it, a] items.size (fun i v => items[i]? = some v) (fun i h => ItK k h it a i ∧ PlK k h a items) := by
  cases k with
  | l => exact Draws.list hh it a hne items
  | t => exact Draws.tuple hh it a hne items
theorem bgK (k : Kd) (a : Addr) (items : Array Value) : Begins (.ref a) (obK k a) fun h => PlK k h a items := by
  cases k with
  | l => exact begins_list a items
  | t => exact begins_tuple a items
theorem ItK.obj {k : Kd} {h : Heap} {it a : Addr} {i : Nat} (x : ItK k h it a i) : ∃ o, h.get? it = some o ∧ ∀ v, o.data ≠ .cell v := by
  cases k with
  | l => obtain ⟨o, e, c, d⟩ := x; exact ⟨o, e, fun v z => by rw [d] at z; cases z⟩
  | t => obtain ⟨o, e, c, d⟩ := x; exact ⟨o, e, fun v z => by rw [d] at z; cases z⟩
theorem ItK.at {k : Kd} {h h' : Heap} {it a : Addr} {i : Nat} (x : ItK k h it a i) (q : ∀ o, h.get? it = some o → h'.get? it = some o) : ItK k h' it a i := by
  cases k with
  | l => exact Heap.IsListIter.at x q
  | t => exact Heap.IsTupleIter.at x q
theorem ItK.of_ob {k : Kd} {h : Heap} {it a : Addr} (e : h.get? it = some (obK k a)) : ItK k h it a 0 := by
  cases k with
  | l => exact ⟨_, e, rfl, rfl⟩
  | t => exact ⟨_, e, rfl, rfl⟩
theorem PlK.lt {k : Kd} {h : Heap} {a : Addr} {its : Array Value} (p : PlK k h a its) : a < h.objs.size := by
  cases k with
  | l => obtain ⟨o, e, _⟩ := p; exact Heap.lt_size e
  | t => obtain ⟨o, e, _⟩ := p; exact Heap.lt_size e
section
variable {X : Cx} {pins : List (Addr × Obj)} {σ : L2.St} {H : Hp} {s : Shared} {a : Addr} {xs ys : List V} {k : Kd}
theorem Inv.sqK (I : Inv X pins σ H s) (h : SqK X.K k H a xs) : ∃ its : List Value, Vals xs its ∧ PlK k s.heap a its.toArray ∧ xs.length ≤ sizeLine := by
  cases k with
  | l => obtain ⟨its, r, p, z⟩ := I.list h; exact ⟨its, r, p.isList, z⟩
  | t => obtain ⟨its, r, p, z⟩ := I.tuple h; exact ⟨its, r, (show s.heap.IsTuple a its.toArray from p), z⟩
theorem Inv.sqK_inj (I : Inv X pins σ H s) (h : SqK X.K k H a xs) (h' : SqK X.K k H a ys) : xs = ys := by
  cases k with
  | l => exact I.list_inj h h'
  | t => exact I.tuple_inj h h'
theorem Inv.lt_it (I : Inv X pins σ H s) {it : Addr} (hf : FpOk X pins H it) (h : SqK X.K k H a xs) : a ≠ it := by
  intro e
  subst e
  have hn := hf.1
  have key : (∃ u, Rd H a u) ∨ ∃ o, X.K.lookup a = some o := by
    cases k with
    | l =>
      rcases h with h | ⟨o, _, _, q, _⟩
      · exact .inl ⟨_, h⟩
      · exact .inr ⟨o, q⟩
    | t =>
      rcases h with h | ⟨o, _, _, q, _⟩
      · exact .inl ⟨_, h⟩
      · exact .inr ⟨o, q⟩
  rcases key with ⟨u, q | ⟨o, q⟩⟩ | ⟨o, q⟩
  · rw [hn] at q; cases q
  · rw [hn] at q; cases q
  · -- an object of the written part is in the base; the iterator is younger
    have hb := I.ok.mod.kin a o q
    rcases hf.2.2.2.1 with z | z
    · exact I.ok.noex a o hb z
    · have := Heap.lt_size (I.ok.bs a o hb).1
      exact absurd (Nat.lt_of_lt_of_le this z) (Nat.lt_irrefl _)
end
/-! ### zip -/
def IzK (K : PySem.W.Frag) (k1 k2 : Kd) (a b : Addr) : It :=
  ⟨fun i H => ∃ (xs ys : List V) (x y : V), SqK K k1 H a xs ∧ SqK K k2 H b ys ∧ xs[i]? = some x ∧ ys[i]? = some y,
    fun i H v H' => ∃ T x y, v = .ref T ∧ H T = none ∧ H' = upd H T (.tup [x, y]) ∧ (∀ xs, SqK K k1 H a xs → xs[i]? = some x) ∧ ∀ ys, SqK K k2 H b ys → ys[i]? = some y,
    fun i H => ∃ xs ys : List V, SqK K k1 H a xs ∧ SqK K k2 H b ys ∧ i ≤ xs.length ∧ i ≤ ys.length ∧ (i = xs.length ∨ i = ys.length)⟩
theorem turn_zipK {P : Program} {w : World} {K : PySem.W.Frag} {elts : List Expr} {kk : Nat} {tpos : Pos} {a b : Addr} {k1 k2 : Kd} {N : Nat} (ha : a < N) (hb : b < N) :
    Turn P w K (.Tuple elts kk tpos) (IzK K k1 k2 a b) [N + 4, N + 2, N + 3, N, N + 1] (N + 4) (fun i h => IsZip h (N + 4) (N + 2) (N + 3) .none ∧ IsTupOf2 h (N + 2) (.ref N) (.ref (N + 1)) ∧ (∃ x y, IsTupOf2 h (N + 3) x y) ∧ ItK k1 h N a i ∧ ItK k2 h (N + 1) b i) := by
  have S : ZipSep2 (N + 4) (N + 2) (N + 3) N (N + 1) [N, a] [N + 1, b] := zip_sep2 (fp1 := [a]) (fp2 := [b]) (fun c hc => by rw [List.mem_singleton] at hc; rw [hc]; exact ha) (fun c hc => by rw [List.mem_singleton] at hc; rw [hc]; exact hb)
  have mem5 : ∀ {c : Addr}, c ∈ [N + 4, N + 2, N + 3, N, N + 1] → c = N + 4 ∨ c = N + 2 ∨ c = N + 3 ∨ c = N ∨ c = N + 1 := fun h => by simpa using h
  refine ⟨by simp, fun i h st c hc => ?_, fun i h h' st k => ?_, ?_, ?_, fun A i s Q E st h => wpAny_pyIter_zip st.1 h⟩
  · obtain ⟨hz, hTI, ⟨x, y, hTO⟩, h1, h2⟩ := st
    rcases mem5 hc with q | q | q | q | q
    · rw [q]; exact ⟨_, hz, fun v q => nomatch q⟩
    · rw [q]; exact ⟨_, hTI, fun v q => nomatch q⟩
    · rw [q]; exact ⟨_, hTO, fun v q => nomatch q⟩
    · rw [q]; exact h1.obj
    · rw [q]; exact h2.obj
  · obtain ⟨hz, hTI, ⟨x, y, hTO⟩, h1, h2⟩ := st
    exact ⟨k _ (by simp) _ hz, k _ (by simp) _ hTI, ⟨x, y, k _ (by simp) _ hTO⟩, h1.at fun o q => k _ (by simp) o q, h2.at fun o q => k _ (by simp) o q⟩
  · intro X hP hw hK hc i pins s σ H E I hf st hg
    subst hP hw hK
    obtain ⟨hz, hTI, ⟨x0, y0, hTO⟩, h1, h2⟩ := st
    obtain ⟨xs, ys, x, y, hqx, hqy, hx, hy⟩ := hg
    obtain ⟨its, rv, p, _⟩ := Inv.sqK I hqx
    obtain ⟨its2, rv2, p2, _⟩ := Inv.sqK I hqy
    obtain ⟨u, hu, ru⟩ := rv.get hx
    obtain ⟨u2, hu2, ru2⟩ := rv2.get hy
    have hzl : N + 4 < s.heap.objs.size := Heap.lt_size hz
    have hh : X.A.in1.handled = none := I.ok.hd hc
    refine wpAny_pyNext_zipD2_item S (drK hh k1 N a (Nat.ne_of_lt ha) its.toArray) (drK hh k2 (N + 1) b (Nat.ne_of_lt (Nat.lt_succ_of_lt hb)) its2.toArray) hz hTI hTO ⟨h1, p⟩ ⟨h2, p2⟩
      (by have := (List.getElem?_eq_some_iff.mp hu).1; simpa using this) (by have := (List.getElem?_eq_some_iff.mp hu2).1; simpa using this) fun x1 x2 h' tk e1 e2 z' TO' h1' h2' hT hsz hk => ?_
    have e1' : x1 = u := by
      have : its.toArray[i]? = some u := by simpa using hu
      rw [this] at e1; exact (Option.some.inj e1).symm
    have e2' : x2 = u2 := by
      have : its2.toArray[i]? = some u2 := by simpa using hu2
      rw [this] at e2; exact (Option.some.inj e2).symm
    subst e1' e2'
    refine ⟨_, rfl, wpAny_letOwnedTupleGo_zip (s := { s with heap := h', toks := tk }) z' fun h'' z'' sb => ?_⟩
    have hT2 : h''.get? s.heap.objs.size = some { cls := .type "tuple", data := .seq #[x1, x2] } := (sb.2 _ (Nat.ne_of_gt hzl)).trans hT
    have new : ObjOk X.prog X.w (upd H s.heap.objs.size (.tup [x, y])) h'' s.heap.objs.size (.tup [x, y]) :=
      ⟨by show 2 ≤ sizeLine; decide, [x1, x2], .cons ru (.cons ru2 .nil), ⟨_, hT2, rfl, _, rfl⟩⟩
    have n1 : (N + 2 : Nat) ≠ N + 4 := by omega
    have n2 : (N + 3 : Nat) ≠ N + 4 := by omega
    have n3 : (N : Nat) ≠ N + 4 := by omega
    have n4 : (N + 1 : Nat) ≠ N + 4 := by omega
    have I1 : Inv X pins σ (upd H s.heap.objs.size (.tup [x, y])) { s with heap := h'', toks := tk } :=
      I.turnedNew (t' := tk) (ch := [N + 4, N + 2, N + 3, N, N + 1]) (fun c o hb q => (sb.2 c (fun q' => hb (by simp [q']))).trans (hk c o (fun q' => hb (by simp [q'])) (fun q' => hb (by simp [q'])) (fun q' => hb (by simp [q'])) (fun q' => hb (by simp [q'])) q)) hf (Nat.le_refl _) new
    refine ⟨.ref s.heap.objs.size, _, I1, rfl, ⟨_, x, y, rfl, I.hok.fresh (Nat.le_refl _), rfl, fun l hl => by rw [Inv.sqK_inj I hl hqx]; exact hx, fun l hl => by rw [Inv.sqK_inj I hl hqy]; exact hy⟩, ⟨z'', ?_, ⟨x1, x2, ?_⟩, ?_, ?_⟩, fun c hcm => ?_⟩
    · exact (sb.2 _ n1).trans (hk _ _ n1 (show (N + 2 : Nat) ≠ N + 3 by omega) (show (N + 2 : Nat) ≠ N by omega) (show (N + 2 : Nat) ≠ N + 1 by omega) hTI)
    · exact (sb.2 _ n2).trans TO'
    · exact h1'.1.at fun o q => (sb.2 _ n3).trans q
    · exact h2'.1.at fun o q => (sb.2 _ n4).trans q
    · have hlt : c < s.heap.objs.size := by
        rcases mem5 hcm with q | q | q | q | q <;> rw [q]
        · exact hzl
        · exact Heap.lt_size hTI
        · exact Heap.lt_size hTO
        · obtain ⟨o, e, _⟩ := h1.obj; exact Heap.lt_size e
        · obtain ⟨o, e, _⟩ := h2.obj; exact Heap.lt_size e
      rw [upd_ne (Nat.ne_of_lt hlt)]
      exact (hf c hcm).1
  · intro X hP hw hK hc i pins s σ H E I hf st hg
    subst hP hw hK
    obtain ⟨hz, hTI, ⟨x0, y0, hTO⟩, h1, h2⟩ := st
    obtain ⟨xs, ys, hqx, hqy, l1, l2, hend⟩ := hg
    obtain ⟨its, rv, p, _⟩ := Inv.sqK I hqx
    obtain ⟨its2, rv2, p2, _⟩ := Inv.sqK I hqy
    have e1 := rv.length
    have e2 := rv2.length
    have hh : X.A.in1.handled = none := I.ok.hd hc
    refine wpAny_pyNext_zipD2_end S (drK hh k1 N a (Nat.ne_of_lt ha) its.toArray) (drK hh k2 (N + 1) b (Nat.ne_of_lt (Nat.lt_succ_of_lt hb)) its2.toArray) hz hTI hTO ⟨h1, p⟩ ⟨h2, p2⟩ (by simp; omega) (by simp; omega) (by simp; omega) fun h' tk hk => ⟨rfl, ?_⟩
    exact I.turnedL (t' := tk) (ch := [N + 4, N + 2, N + 3, N, N + 1]) (fun c o hb q => hk c o (fun q' => hb (by simp [q'])) (fun q' => hb (by simp [q'])) (fun q' => hb (by simp [q'])) (fun q' => hb (by simp [q'])) q) hf
def iZipK (K : PySem.W.Frag) (ta : TA) : TI := fun σ H R => ta σ H fun vs H1 => ∃ k1 k2 a b xs ys, vs = [.ref a, .ref b] ∧ SqK K k1 H1 a xs ∧ SqK K k2 H1 b ys ∧ R (IzK K k1 k2 a b) H1
theorem pi_zipK {X : Cx} {e e2 : Expr} {ta : TA} {p pos tpos : Pos} {elts : List Expr} {kk : Nat} (hg : Gl X "zip") (hm : X.mg "zip" = none) (ha : PA X [e, e2] ta)
    (hs : starEach [e, e2] X.env = (false, eval e X.env) :: starEach [e2] X.env := by rfl) (hpl : (backTo pos (starEach [e2] X.env)).any (·.1) = false := by rfl) :
    PI X (.Tuple elts kk tpos) (.Call (.Name "zip" p) [e, e2] [] pos) (iZipK X.K ta) := by
  refine ⟨fun pins s σ H R I h => ?_⟩
  refine Call_ (ld_blt I hg hm PyProof.Rows.boot_zip (PyProof.Rows.callWith_type1 (thn (ha.run pos pins s σ H _ I h) fun us s1 ⟨vs, H1, I1, r1, q1⟩ => ?_) hs hpl))
  obtain ⟨k1, k2, a, b, xs, ys, ex, hqx, hqy, q⟩ := q1
  subst ex
  obtain ⟨u1, u2, rfl, ru1, ru2⟩ := vals2 r1
  cases ru1
  cases ru2
  obtain ⟨its, rv, p1, _⟩ := Inv.sqK I1 hqx
  obtain ⟨its2, rv2, p2, _⟩ := Inv.sqK I1 hqy
  refine zip_begins2 (bgK k1 a its.toArray) (bgK k2 b its2.toArray) p1 p2 fun h' hz hTI hTO o1 o2 hsz hk => wpAny_pyIter_zip hz ?_
  have I2 : Inv X pins σ H1 { s1 with heap := h' } := I1.kept (t' := s1.toks) hk
  refine ⟨s1.heap.objs.size + 4, [s1.heap.objs.size + 4, s1.heap.objs.size + 2, s1.heap.objs.size + 3, s1.heap.objs.size, s1.heap.objs.size + 1], _, _, H1, rfl, I2, turn_zipK p1.lt p2.lt, ⟨hz, hTI, ⟨_, _, hTO⟩, .of_ob o1, .of_ob o2⟩, fun c hcm => ?_, q⟩
  have e' : c = s1.heap.objs.size + 4 ∨ c = s1.heap.objs.size + 2 ∨ c = s1.heap.objs.size + 3 ∨ c = s1.heap.objs.size ∨ c = s1.heap.objs.size + 1 := by simpa using hcm
  have hle : s1.heap.objs.size ≤ c := by
    rcases e' with z | z | z | z | z
    · rw [z]; exact Nat.le_add_right _ _
    · rw [z]; exact Nat.le_add_right _ _
    · rw [z]; exact Nat.le_add_right _ _
    · rw [z]; exact Nat.le_refl _
    · rw [z]; exact Nat.le_add_right _ _
  exact I1.fpOk hle (I1.hok.fresh hle)
/-! ### enumerate -/
def IeK (K : PySem.W.Frag) (k : Kd) (a : Addr) : It :=
  ⟨fun i H => ∃ (xs : List V) (x : V), SqK K k H a xs ∧ xs[i]? = some x, fun i H v H' => ∃ T x, v = .ref T ∧ H T = none ∧ H' = upd H T (.tup [.int (i : Nat), x]) ∧ ∀ xs, SqK K k H a xs → xs[i]? = some x, fun i H => ∃ xs : List V, SqK K k H a xs ∧ i = xs.length⟩
theorem turn_enumK {P : Program} {w : World} {K : PySem.W.Frag} {elts : List Expr} {kk : Nat} {tpos : Pos} {k : Kd} {N : Nat} {a : Addr} (ha : a < N) :
    Turn P w K (.Tuple elts kk tpos) (IeK K k a) [N + 1, N] (N + 1) (fun i h => (∃ old, IsEnum h (N + 1) N ((i : Nat) : Int) old) ∧ ItK k h N a i) := by
  have hne : (N + 1 : Nat) ≠ N := by omega
  refine ⟨by simp, fun i h st b hb => ?_, fun i h h' st kp => ?_, ?_, ?_, fun A i s Q E st h => let ⟨⟨_, he⟩, _⟩ := st; wpAny_pyIter_enum he h⟩
  · obtain ⟨⟨old, he⟩, hi⟩ := st
    have e' : b = N + 1 ∨ b = N := by simpa using hb
    rcases e' with z | z
    · rw [z]; exact ⟨_, he, fun v q => nomatch q⟩
    · rw [z]; exact hi.obj
  · obtain ⟨⟨old, he⟩, hi⟩ := st
    exact ⟨⟨old, kp _ (by simp) _ he⟩, hi.at fun o q => kp _ (by simp) o q⟩
  · intro X hP hw hK hc i pins s σ H E I hf st hg
    subst hP hw hK
    obtain ⟨⟨old, he⟩, hit⟩ := st
    obtain ⟨xs, x, hq, hx⟩ := hg
    obtain ⟨its, rv, p, hz⟩ := Inv.sqK I hq
    obtain ⟨u, hu, ru⟩ := rv.get hx
    have hel : N + 1 < s.heap.objs.size := Heap.lt_size he
    have hil : N < s.heap.objs.size := by obtain ⟨_, q, _⟩ := hit.obj; exact Heap.lt_size q
    have hh : X.A.in1.handled = none := I.ok.hd hc
    have han : N + 1 ≠ a := Nat.ne_of_gt (Nat.lt_succ_of_lt ha)
    refine wpAny_pyNext_enum_itemD (drK hh k N a (Nat.ne_of_lt ha) its.toArray) he ⟨hit, p⟩ (by have := (List.getElem?_eq_some_iff.mp hu).1; simpa using this) hne
      (by intro hm; rcases List.mem_cons.mp hm with z | z; exact hne z; rw [List.mem_singleton] at z; exact han z) fun y h' tk ey ho hit' hT hsz hk => ?_
    have ey' : y = u := by
      have : its.toArray[i]? = some u := by simpa using hu
      rw [this] at ey; exact (Option.some.inj ey).symm
    subst ey'
    refine ⟨_, rfl, wpAny_letOwnedTupleGo_enum (s := { s with heap := h', toks := tk + 1 }) ho fun h'' he' sb => ?_⟩
    have hT2 : h''.get? s.heap.objs.size = some { cls := .type "tuple", data := .seq #[.int i tk, y] } := (sb.2 _ (Nat.ne_of_gt hel)).trans hT
    have new : ObjOk X.prog X.w (upd H s.heap.objs.size (.tup [.int (i : Nat), x])) h'' s.heap.objs.size (.tup [.int (i : Nat), x]) :=
      ⟨by show 2 ≤ sizeLine; decide, [.int i tk, y], .cons ⟨_, rfl⟩ (.cons ru .nil), ⟨_, hT2, rfl, _, rfl⟩⟩
    have I1 : Inv X pins σ (upd H s.heap.objs.size (.tup [.int (i : Nat), x])) { s with heap := h'', toks := tk + 1 } :=
      I.turnedNew (ch := [N + 1, N]) (fun b ob hb q => (sb.2 b (fun z => hb (by simp [z]))).trans (hk b ob (fun z => hb (by simp [z])) (fun z => hb (by simp [z])) q)) hf (Nat.le_refl _) new
    refine ⟨.ref s.heap.objs.size, _, I1, rfl, ⟨_, x, rfl, I.hok.fresh (Nat.le_refl _), rfl, fun ys hy => by rw [Inv.sqK_inj I hy hq]; exact hx⟩, ⟨⟨y, ?_⟩, hit'.1.at fun o q => (sb.2 _ (Ne.symm hne)).trans q⟩, fun b hb => ?_⟩
    · have e1 : ((i + 1 : Nat) : Int) = (i : Int) + 1 := by omega
      rw [e1]; exact he'
    · have hb' : b < s.heap.objs.size := by
        have e' : b = N + 1 ∨ b = N := by simpa using hb
        rcases e' with z | z
        · rw [z]; exact hel
        · rw [z]; exact hil
      rw [upd_ne (Nat.ne_of_lt hb')]
      exact (hf b hb).1
  · intro X hP hw hK hc i pins s σ H E I hf st hg
    subst hP hw hK
    obtain ⟨⟨old, he⟩, hit⟩ := st
    obtain ⟨xs, hq, hi⟩ := hg
    obtain ⟨its, rv, p, hz⟩ := Inv.sqK I hq
    obtain ⟨f0, f1, f2, f3, f4, f5⟩ := hf N (by simp)
    have hl := rv.length
    have hh : X.A.in1.handled = none := I.ok.hd hc
    have e1 : its.toArray.size = i := by simp; omega
    subst e1
    exact wpAny_pyNext_enum_endD (drK hh k N a (Nat.ne_of_lt ha) its.toArray) he ⟨hit, p⟩ fun h' eb => ⟨rfl, I.turned (t' := s.toks) (fun b o hb q => eb b o hb q) f0 f1 f3 f4 f5⟩
def iEnumK (K : PySem.W.Frag) (ta : TA) : TI := fun σ H R => ta σ H fun vs H1 => ∃ k a xs, vs = [.ref a] ∧ SqK K k H1 a xs ∧ R (IeK K k a) H1
theorem pi_enumK {X : Cx} {e : Expr} {ta : TA} {p pos tpos : Pos} {elts : List Expr} {kk : Nat} (hg : Gl X "enumerate") (hm : X.mg "enumerate" = none) (ha : PA X [e] ta) (hs : starEach [e] X.env = [(false, eval e X.env)] := by rfl) :
    PI X (.Tuple elts kk tpos) (.Call (.Name "enumerate" p) [e] [] pos) (iEnumK X.K ta) := by
  refine ⟨fun pins s σ H R I h => ?_⟩
  refine Call_ (ld_blt I hg hm boot_enumerate (PyProof.Rows.callWith_type1 (thn (ha.run pos pins s σ H _ I h) fun us s1 ⟨vs, H1, I1, r1, q1⟩ => ?_) hs rfl))
  obtain ⟨k, a, xs, ex, hq, q⟩ := q1
  subst ex
  obtain ⟨u, rfl, ru⟩ := vals1 r1
  cases ru
  obtain ⟨its, rv, p', hz⟩ := Inv.sqK I1 hq
  refine enum_begins1 (bgK k a its.toArray) p' fun h' he ho hsz hk => wpAny_pyIter_enum he ?_
  have I2 : Inv X pins σ H1 { s1 with heap := h' } := I1.kept (t' := s1.toks) hk
  refine ⟨s1.heap.objs.size + 1, [s1.heap.objs.size + 1, s1.heap.objs.size], _, _, H1, rfl, I2, turn_enumK p'.lt, ⟨⟨.none, he⟩, .of_ob ho⟩, fun b hb => ?_, q⟩
  have e' : b = s1.heap.objs.size + 1 ∨ b = s1.heap.objs.size := by simpa using hb
  have hle : s1.heap.objs.size ≤ b := by
    rcases e' with z | z
    · rw [z]; exact Nat.le_succ _
    · rw [z]; exact Nat.le_refl _
  exact I1.fpOk hle (I1.hok.fresh hle)

/-! ### over data -/
section
variable {X : Cx} {E : EX} {pos p tpos : Pos} {elts : List Expr} {kk : Nat} {a b : Expr} {fa fb : ED}
def zipD : List PyData → List PyData → List PyData
  | x :: xs, y :: ys => .tuple [x, y] :: zipD xs ys
  | _, _ => []
def enumD : Nat → List PyData → List PyData
  | _, [] => []
  | n, x :: xs => .tuple [.int (n : Nat), x] :: enumD (n + 1) xs
def iZip (fa fb : ED) : EL := fun st => (fa st).bind fun x s1 => (fb s1).bind fun y s2 => match itemsOf x, itemsOf y with
  | some xs, some ys => .ok (zipD xs ys) s2
  | _, _ => .bad
def iEnm (fa : ED) : EL := fun st => (fa st).bind fun x s1 => match itemsOf x with
  | some xs => .ok (enumD 0 xs) s1
  | none => .bad
theorem zipD_len : ∀ xs ys : List PyData, (zipD xs ys).length = min xs.length ys.length
  | [], ys => by simp [zipD]
  | _ :: _, [] => by simp [zipD]
  | x :: xs, y :: ys => by simp only [zipD, List.length_cons, zipD_len xs ys]; omega
theorem zipD_get : ∀ (xs ys : List PyData) (i : Nat) (d : PyData), (zipD xs ys)[i]? = some d → ∃ x y, xs[i]? = some x ∧ ys[i]? = some y ∧ d = .tuple [x, y]
  | [], ys, i, d, h => by simp [zipD] at h
  | _ :: _, [], i, d, h => by simp [zipD] at h
  | x :: xs, y :: ys, 0, d, h => by simp [zipD] at h; exact ⟨x, y, rfl, rfl, h.symm⟩
  | x :: xs, y :: ys, i + 1, d, h => zipD_get xs ys i d (by simpa [zipD] using h)
theorem enumD_len : ∀ (n : Nat) (xs : List PyData), (enumD n xs).length = xs.length
  | _, [] => rfl
  | n, x :: xs => by simp [enumD, enumD_len (n + 1) xs]
theorem enumD_get : ∀ (xs : List PyData) (n i : Nat) (d : PyData), (enumD n xs)[i]? = some d → ∃ x, xs[i]? = some x ∧ d = .tuple [.int ((n + i : Nat) : Int), x]
  | [], n, i, d, h => by simp [enumD] at h
  | x :: xs, n, 0, d, h => by simp [enumD] at h; exact ⟨x, rfl, h.symm⟩
  | x :: xs, n, i + 1, d, h => by
    obtain ⟨y, h1, h2⟩ := enumD_get xs (n + 1) i d (by simpa [enumD] using h)
    refine ⟨y, by simpa using h1, ?_⟩
    rw [h2]
    have e : n + 1 + i = n + (i + 1) := by omega
    rw [e]
/-- a list or a tuple, by its kind -/
theorem IsD.kind {K : PySem.W.Frag} {W : Wd} {H : Hp} {v : V} {d : PyData} {ys : List PyData} (h : IsD K W H v d) (e : itemsOf d = some ys) :
    ∃ k a xs, v = .ref a ∧ IsDs K W H xs ys ∧ ys.length ≤ sizeLine ∧ ∀ W2 H2, Lat W H W2 H2 → SqK K k H2 a xs := by
  cases h with
  | lst f z hs => cases e; exact ⟨.l, _, _, rfl, hs, z, fun W2 H2 L => (f.lat L).sq⟩
  | tup f z hs => cases e; exact ⟨.t, _, _, rfl, hs, z, fun W2 H2 L => (f.lat L).sq⟩
  | _ => cases e
theorem di_zip (hm : X.mg "zip" = none) (ha : PE X a (tD X.K E fa)) (hb : PE X b (tD X.K E fb)) (hg : Gl X "zip" := by rfl) (hs : starEach [a, b] X.env = (false, eval a X.env) :: starEach [b] X.env := by rfl) (hs2 : starEach [b] X.env = (false, eval b X.env) :: starEach [] X.env := by rfl) (hpl : (backTo pos (starEach [b] X.env)).any (·.1) = false := by rfl) :
    PI X (.Tuple elts kk tpos) (.Call (.Name "zip" p) [a, b] [] pos) (tI X.K E true (iZip fa fb)) := by
  refine pi_imp (pi_zipK hg hm (pa_cons ha (pa_cons hb pa_nil hs2) hs) hs hpl) fun σ H R h => ?_
  obtain ⟨W, st, R0, h⟩ := h
  refine tD_of R0 (h.then.imp fun x s1 W1 H1 _ R1 X1 h1 v hv => tD_of R1 (h1.then.imp fun y s2 W2 H2 _ R2 X2 h2 u hu => ?_))
  have hv2 := hv.lat (R1.lat X2)
  cases ex : itemsOf x with
  | none => rw [ex] at h2; exact h2.elim
  | some xs =>
    cases ey : itemsOf y with
    | none => rw [ex, ey] at h2; exact h2.elim
    | some ys =>
      rw [ex, ey] at h2
      obtain ⟨k1, a1, vs, rfl, hvs, z1, q1⟩ := hv2.kind ex
      obtain ⟨k2, a2, us, rfl, hus, z2, q2⟩ := hu.kind ey
      refine ⟨k1, k2, a1, a2, vs, us, rfl, q1 W2 H2 (.refl _ _), q2 W2 H2 (.refl _ _), h2 W2 H2 R2 .refl _ ⟨by rw [zipD_len]; omega, fun i W3 H3 L fok => ⟨fun d hd => ?_, fun hi => ?_⟩⟩⟩
      · obtain ⟨x1, y1, g1, g2, rfl⟩ := zipD_get _ _ _ _ hd
        obtain ⟨v1, f1, i1⟩ := hvs.get g1
        obtain ⟨u1, f2, i2⟩ := hus.get g2
        refine ⟨⟨vs, us, v1, u1, q1 W3 H3 L, q2 W3 H3 L, f1, f2⟩, fun z H4 ⟨T, x', y', e1, e2, e3, e4, e5⟩ => ?_⟩
        subst e1 e3
        have r1 := e4 vs (q1 W3 H3 L)
        have r2 := e5 us (q2 W3 H3 L)
        rw [f1] at r1
        rw [f2] at r2
        cases r1; cases r2
        have g := Fok.new (p := T) (o := .tup [v1, u1]) fok e2
        exact ⟨W3, g, .inr ⟨rfl, T, [v1, u1], [x1, y1], rfl, rfl, SqT.of upd_same, .cons ((i1.lat L).lat g.lat) (.cons ((i2.lat L).lat g.lat) .nil)⟩⟩
      · rw [zipD_len] at hi
        refine ⟨vs, us, q1 W3 H3 L, q2 W3 H3 L, ?_, ?_, ?_⟩
        · rw [hvs.length]; omega
        · rw [hus.length]; omega
        · rw [hvs.length, hus.length]; omega
theorem di_enum (hm : X.mg "enumerate" = none) (ha : PE X a (tD X.K E fa)) (hg : Gl X "enumerate" := by rfl) (hs : starEach [a] X.env = [(false, eval a X.env)] := by rfl) :
    PI X (.Tuple elts kk tpos) (.Call (.Name "enumerate" p) [a] [] pos) (tI X.K E true (iEnm fa)) := by
  refine pi_imp (pi_enumK hg hm (pa_cons ha pa_nil hs) hs) fun σ H R h => ?_
  obtain ⟨W, st, R0, h⟩ := h
  refine tD_of R0 (h.then.imp fun x s1 W1 H1 _ R1 X1 h1 v hv => ?_)
  cases ex : itemsOf x with
  | none => rw [ex] at h1; exact h1.elim
  | some xs =>
    rw [ex] at h1
    obtain ⟨k1, a1, vs, rfl, hvs, z1, q1⟩ := hv.kind ex
    refine ⟨k1, a1, vs, rfl, q1 W1 H1 (.refl _ _), h1 W1 H1 R1 .refl _ ⟨by rw [enumD_len]; exact z1, fun i W3 H3 L fok => ⟨fun d hd => ?_, fun hi => ?_⟩⟩⟩
    · obtain ⟨x1, g1, rfl⟩ := enumD_get _ _ _ _ hd
      obtain ⟨v1, f1, i1⟩ := hvs.get g1
      refine ⟨⟨vs, v1, q1 W3 H3 L, f1⟩, fun z H4 ⟨T, x', e1, e2, e3, e4⟩ => ?_⟩
      subst e1 e3
      have r1 := e4 vs (q1 W3 H3 L)
      rw [f1] at r1
      cases r1
      have g := Fok.new (p := T) (o := .tup [.int (i : Nat), v1]) fok e2
      exact ⟨W3, g, .inr ⟨rfl, T, [.int (i : Nat), v1], [.int ((0 + i : Nat) : Int), x1], rfl, rfl, SqT.of upd_same, .cons (by rw [Nat.zero_add]; exact .int _) (.cons ((i1.lat L).lat g.lat) .nil)⟩⟩
    · rw [enumD_len] at hi
      exact ⟨vs, q1 W3 H3 L, by rw [hvs.length]; exact hi⟩
end
end DL
/-! DG: comprehensions. -/
namespace DL
open PySem PySem.Spec PyProof.Rows L2
def Rs.nox {α : Type} : Rs α → Rs α
  | .ex _ _ => .bad
  | x => x
@[simp] theorem Rs.nox_ok {α : Type} (a : α) (st : Sta) : (Rs.ok a st).nox = .ok a st := rfl
abbrev E0 : EX := fun _ _ _ => False
theorem Res.nox {K : PySem.W.Frag} {E : EX} {σ : L2.St} {W : Wd} {H : Hp} {r : List Slot} {α : Type} {x : Rs α} {C : α → Sta → Wd → Hp → Prop} (h : Res K E σ W H r x.nox C) : Res K E0 σ W H r x C := by
  cases x with
  | ok a st => exact h
  | ex c st => exact h.elim
  | bad => exact h.elim
def wipeR (r : List Slot) : List Nat → List Slot
  | [] => r
  | v :: vs => (wipeR r vs).set v .non
/-- the slots vs as they were in r0 -/
def backR (r0 r : List Slot) : List Nat → List Slot
  | [] => r
  | v :: vs => (backR r0 r vs).set v (r0.getD v .non)
def wipeS (vs : List Nat) (st : Sta) : Sta := { st with r := wipeR st.r vs }
theorem wipeR_len (r : List Slot) : ∀ vs, (wipeR r vs).length = r.length
  | [] => rfl
  | v :: vs => by unfold wipeR; rw [List.length_set, wipeR_len r vs]
theorem backR_len (r0 r : List Slot) : ∀ vs, (backR r0 r vs).length = r.length
  | [] => rfl
  | v :: vs => by unfold backR; rw [List.length_set, backR_len r0 r vs]
theorem wipeR_out {r : List Slot} {i : Nat} : ∀ {vs : List Nat}, i ∉ vs → (wipeR r vs)[i]? = r[i]?
  | [], _ => rfl
  | v :: vs, h => by
    unfold wipeR
    rw [List.getElem?_set_ne (fun e => h (by rw [e]; exact List.mem_cons_self)), wipeR_out (fun z => h (List.mem_cons_of_mem _ z))]
theorem wipeR_in {r : List Slot} {i : Nat} : ∀ {vs : List Nat}, i ∈ vs → i < r.length → (wipeR r vs)[i]? = some .non
  | [], h, _ => nomatch h
  | v :: vs, h, hi => by
    unfold wipeR
    by_cases e : v = i
    · subst e; rw [List.getElem?_set_self (by rw [wipeR_len]; exact hi)]
    · rw [List.getElem?_set_ne e]
      rcases List.mem_cons.mp h with z | z
      · exact absurd z.symm e
      · exact wipeR_in z hi
theorem backR_out {r0 r : List Slot} {i : Nat} : ∀ {vs : List Nat}, i ∉ vs → (backR r0 r vs)[i]? = r[i]?
  | [], _ => rfl
  | v :: vs, h => by
    unfold backR
    rw [List.getElem?_set_ne (fun e => h (by rw [e]; exact List.mem_cons_self)), backR_out (fun z => h (List.mem_cons_of_mem _ z))]
theorem backR_in {r0 r : List Slot} {i : Nat} : ∀ {vs : List Nat}, i ∈ vs → i < r.length → (backR r0 r vs)[i]? = some (r0.getD i .non)
  | [], h, _ => nomatch h
  | v :: vs, h, hi => by
    unfold backR
    by_cases e : v = i
    · subst e; rw [List.getElem?_set_self (by rw [backR_len]; exact hi)]
    · rw [List.getElem?_set_ne e]
      rcases List.mem_cons.mp h with z | z
      · exact absurd z.symm e
      · exact backR_in z hi
theorem wipe_out {σ : L2.St} {i : Nat} : ∀ {vs : List Nat}, i ∉ vs → (wipe σ vs)[i]? = σ[i]?
  | [], _ => rfl
  | v :: vs, h => by
    unfold wipe
    rw [List.getElem?_set_ne (fun e => h (by rw [e]; exact List.mem_cons_self)), wipe_out (fun z => h (List.mem_cons_of_mem _ z))]
theorem wipe_in {σ : L2.St} {i : Nat} : ∀ {vs : List Nat}, i ∈ vs → i < σ.length → (wipe σ vs)[i]? = some none
  | [], h, _ => nomatch h
  | v :: vs, h, hi => by
    unfold wipe
    by_cases e : v = i
    · subst e; rw [List.getElem?_set_self (by rw [wipe_length]; exact hi)]
    · rw [List.getElem?_set_ne e]
      rcases List.mem_cons.mp h with z | z
      · exact absurd z.symm e
      · exact wipe_in z hi
theorem wipe_off {is vs : List Nat} {σ σ' : L2.St} (o : Off is σ σ') (h : ∀ i ∈ is, i ∈ vs) : wipe σ' vs = wipe σ vs := by
  refine List.ext_getElem? fun i => ?_
  by_cases hv : i ∈ vs
  · by_cases hi : i < σ.length
    · rw [wipe_in hv (by rw [o.1]; exact hi), wipe_in hv hi]
    · rw [List.getElem?_eq_none (by rw [wipe_length, o.1]; omega), List.getElem?_eq_none (by rw [wipe_length]; omega)]
  · rw [wipe_out hv, wipe_out hv, o.2 i fun z => hv (h i z)]
theorem wipe_wipe {vs : List Nat} {σ : L2.St} : wipe (wipe σ vs) vs = wipe σ vs := by
  refine List.ext_getElem? fun i => ?_
  by_cases hv : i ∈ vs
  · by_cases hi : i < σ.length
    · rw [wipe_in hv (by rw [wipe_length]; exact hi), wipe_in hv hi]
    · rw [List.getElem?_eq_none (by rw [wipe_length, wipe_length]; omega), List.getElem?_eq_none (by rw [wipe_length]; omega)]
  · rw [wipe_out hv]
section
variable {K : PySem.W.Frag} {W W1 W2 : Wd} {H H1 H2 : Hp} {σ σ' : L2.St} {st : Sta} {r : List Slot}
/-- a state over slots that agree off vs, the slots vs of the state holding nothing -/
theorem Rel.slots (R : Rel K W H σ st) (r' : List Slot) (hl : σ'.length = r'.length) (hlen : r'.length = st.r.length) (h : ∀ (i : Nat) (s : Slot), r'[i]? = some s → s = Slot.non ∨ (st.r[i]? = some s ∧ σ'[i]? = σ[i]?)) :
    Rel K W H σ' { st with r := r' } ∧ ∀ a, Own σ' r' a → Own σ st.r a := by
  refine ⟨⟨fun i d hi => ?_, fun i l hi => ?_, fun i j l l' a hi hj q1 q2 => ?_, hl, R.sl, R.nd, R.sto, R.fok, R.lf⟩, fun a ⟨i, l, hi, q⟩ => ?_⟩
  · rcases h i _ hi with e | ⟨e1, e2⟩
    · cases e
    · rw [e2]; exact R.val i d e1
  · rcases h i _ hi with e | ⟨e1, e2⟩
    · cases e
    · rw [e2]; exact R.own i l e1
  · rcases h i _ hi with e | ⟨e1, e2⟩
    · cases e
    · rcases h j _ hj with e | ⟨e3, e4⟩
      · cases e
      · exact R.dj i j l l' a e1 e3 (by rw [← e2]; exact q1) (by rw [← e4]; exact q2)
  · rcases h i _ hi with e | ⟨e1, e2⟩
    · cases e
    · exact ⟨i, l, e1, by rw [← e2]; exact q⟩
theorem Rel.wiped (R : Rel K W H σ st) (vs : List Nat) : Rel K W H (wipe σ vs) (wipeS vs st) ∧ ∀ a, Own (wipe σ vs) (wipeR st.r vs) a → Own σ st.r a := by
  refine R.slots (wipeR st.r vs) (by rw [wipe_length, wipeR_len]; exact R.len) (wipeR_len _ _) fun i s hi => ?_
  by_cases hv : i ∈ vs
  · have hil : i < st.r.length := by rw [← wipeR_len st.r vs]; exact (List.getElem?_eq_some_iff.mp hi).1
    rw [wipeR_in hv hil] at hi
    exact .inl (Option.some.inj hi).symm
  · rw [wipeR_out hv] at hi
    exact .inr ⟨hi, wipe_out hv⟩
/-- behind a block: the slots vs as they were -/
theorem Rel.backed {st0 st2 : Sta} {vs : List Nat} (R0 : Rel K W H σ st0) (R2 : Rel K W2 H2 (wipe σ vs) st2) (X : Ext W H (wipe σ vs) (wipeR st0.r vs) W2 H2 (wipe σ vs) st2.r) :
    Rel K W2 H2 σ { st2 with r := backR st0.r st2.r vs } ∧ Ext W H σ st0.r W2 H2 σ (backR st0.r st2.r vs) := by
  have hl2 : st2.r.length = st0.r.length := by rw [← R2.len, wipe_length, R0.len]
  obtain ⟨Rw, ow⟩ := R0.wiped vs
  have L := Rw.lat X
  -- an own slot among vs, as it was: nobody touched it
  have keepOwn : ∀ i l a, i ∈ vs → st0.r[i]? = some (.own l) → σ[i]? = some (some (.ref a)) → ¬ Own (wipe σ vs) (wipeR st0.r vs) a := fun i l a hv h1 h2 ⟨j, m, h3, h4⟩ => by
    have hj : j ∉ vs := fun hj => by
      have hjl : j < st0.r.length := by rw [← wipeR_len st0.r vs]; exact (List.getElem?_eq_some_iff.mp h3).1
      rw [wipeR_in hj hjl] at h3; cases h3
    rw [wipeR_out hj] at h3
    rw [wipe_out hj] at h4
    have := R0.dj i j l m a h1 h3 h2 h4
    subst this
    exact hj hv
  have split : ∀ i s, (backR st0.r st2.r vs)[i]? = some s → (i ∈ vs ∧ st0.r[i]? = some s) ∨ (i ∉ vs ∧ st2.r[i]? = some s) := fun i s hi => by
    by_cases hv : i ∈ vs
    · have hil : i < st2.r.length := by rw [← backR_len st0.r st2.r vs]; exact (List.getElem?_eq_some_iff.mp hi).1
      rw [backR_in hv hil] at hi
      refine .inl ⟨hv, ?_⟩
      rw [List.getD_eq_getElem?_getD, List.getElem?_eq_getElem (by omega)] at hi
      rw [List.getElem?_eq_getElem (by omega)]
      exact hi
    · rw [backR_out hv] at hi
      exact .inr ⟨hv, hi⟩
  refine ⟨⟨fun i d hi => ?_, fun i l hi => ?_, fun i j l l' a hi hj q1 q2 => ?_, by rw [backR_len, hl2]; exact R0.len, R2.sl, R2.nd, R2.sto, R2.fok, R2.lf⟩, ⟨X.f, fun a ha => ?_, X.l, fun a o ha hL no => ?_, X.dom, fun a ha => ?_⟩⟩
  · rcases split i _ hi with ⟨hv, e⟩ | ⟨hv, e⟩
    · obtain ⟨v, q, z⟩ := R0.val i d e
      exact ⟨v, q, z.lat L⟩
    · obtain ⟨v, q, z⟩ := R2.val i d e
      rw [wipe_out hv] at q
      exact ⟨v, q, z⟩
  · rcases split i _ hi with ⟨hv, e⟩ | ⟨hv, e⟩
    · obtain ⟨a, xs, q1, q2, q3, q4, q5, q6⟩ := R0.own i l e
      have no := keepOwn i l a hv e q1
      refine ⟨a, xs, q1, X.keep a _ q2 q5 no, q3.lat L, fun h => ?_, fun h => ?_, q6⟩
      · rcases X.fn a h with h | h | h
        · exact q4 h
        · rw [q2] at h; cases h
        · exact no h
      · obtain ⟨more, e1, e2⟩ := X.l
        rw [e1] at h
        rcases List.mem_append.mp h with h | h
        · exact q5 h
        · rw [e2 a h] at q2; cases q2
    · obtain ⟨a, xs, q1, q2⟩ := R2.own i l e
      rw [wipe_out hv] at q1
      exact ⟨a, xs, q1, q2⟩
  · have new : ∀ i l a, i ∉ vs → st2.r[i]? = some (.own l) → σ[i]? = some (some (.ref a)) → Own (wipe σ vs) (wipeR st0.r vs) a ∨ H a = none := fun i l a hv e q => X.on a ⟨i, l, e, by rw [wipe_out hv]; exact q⟩
    rcases split i _ hi with ⟨hv, e⟩ | ⟨hv, e⟩
    · rcases split j _ hj with ⟨hw, e'⟩ | ⟨hw, e'⟩
      · exact R0.dj i j l l' a e e' q1 q2
      · exfalso
        rcases new j l' a hw e' q2 with h | h
        · exact keepOwn i l a hv e q1 h
        · obtain ⟨b, xs, z1, z2, _⟩ := R0.own i l e
          rw [q1] at z1; cases z1
          rw [h] at z2; cases z2
    · rcases split j _ hj with ⟨hw, e'⟩ | ⟨hw, e'⟩
      · exfalso
        rcases new i l a hv e q1 with h | h
        · exact keepOwn j l' a hw e' q2 h
        · obtain ⟨b, xs, z1, z2, _⟩ := R0.own j l' e'
          rw [q2] at z1; cases z1
          rw [h] at z2; cases z2
      · exact R2.dj i j l l' a e e' (by rw [wipe_out hv]; exact q1) (by rw [wipe_out hw]; exact q2)
  · rcases X.fn a ha with h | h | h
    · exact .inl h
    · exact .inr (.inl h)
    · exact .inr (.inr (ow a h))
  · exact X.keep a o ha hL fun h => no (ow a h)
  · obtain ⟨i, l, hi, q⟩ := ha
    rcases split i _ hi with ⟨hv, e⟩ | ⟨hv, e⟩
    · exact .inl ⟨i, l, e, q⟩
    · rcases X.on a ⟨i, l, e, by rw [wipe_out hv]; exact q⟩ with h | h
      · exact .inl (ow a h)
      · exact .inr h
theorem Fre.ext {p : Addr} {ds : List PyData} {r1 : List Slot} (h : Fre K W H σ r p ds) (R : Rel K W H σ { st with r := r }) (X : Ext W H σ r W1 H1 σ' r1) : Fre K W1 H1 σ' r1 p ds := by
  obtain ⟨⟨xs, e, hxs⟩, z, nf, nl, no⟩ := h
  have L : Lat W H W1 H1 := R.lat X
  refine ⟨⟨xs, X.keep p _ e nl no, hxs.lat L⟩, z, fun h => ?_, fun h => ?_, fun h => ?_⟩
  · rcases X.fn p h with h | h | h
    · exact nf h
    · rw [e] at h; cases h
    · exact no h
  · obtain ⟨more, e1, e2⟩ := X.l
    rw [e1] at h
    rcases List.mem_append.mp h with h | h
    · exact nl h
    · rw [e2 p h] at e; cases e
  · rcases X.on p h with h | h
    · exact no h
    · rw [e] at h; cases h
/-- a list that nobody holds gets another content -/
theorem Rel.updFre (R : Rel K W H σ st) {p : Addr} {ds es : List PyData} {ys : List V} (h : Fre K W H σ st.r p ds) (hys : IsDs K W H ys es) (z : es.length ≤ sizeLine) :
    Rel K W (upd H p (.lst ys)) σ st ∧ Fre K W (upd H p (.lst ys)) σ st.r p es ∧ Lat W H W (upd H p (.lst ys)) := by
  obtain ⟨⟨xs, e, hxs⟩, z0, nf, nl, no⟩ := h
  have L0 : Lat W H W (upd H p (.lst ys)) := ⟨fun _ h => h, fun _ _ h => h, fun b o hb q => by rw [upd_ne (fun w => nf (by rw [← w]; exact hb))]; exact q,
    fun b zs q => by rw [upd_ne (fun w => by rw [w, e] at q; cases q)]; exact q, fun b o u q _ => by rw [upd_ne (fun w => by rw [w, e] at q; cases q)]; exact q⟩
  refine ⟨⟨fun i d hi => ?_, fun i l hi => ?_, R.dj, R.len, R.sl, R.nd, fun n b o hb ho => ?_, fun b hb => ?_, R.lf⟩, ⟨⟨ys, upd_same, hys.lat L0⟩, z, nf, nl, no⟩, L0⟩
  · obtain ⟨v, q, w⟩ := R.val i d hi
    exact ⟨v, q, w.lat L0⟩
  · obtain ⟨a, zs, q1, q2, q3, q4⟩ := R.own i l hi
    have na : a ≠ p := fun w => no ⟨i, l, hi, by rw [← w]; exact q1⟩
    exact ⟨a, zs, q1, by rw [upd_ne na]; exact q2, q3.lat L0, q4⟩
  · have nb : b ≠ p := fun w => nl (by rw [← w]; exact List.mem_of_getElem? hb)
    have q := R.sto n b o hb ho
    cases o with
    | lst m =>
      obtain ⟨zs, q1, q2, q3⟩ := q
      exact ⟨zs, by rw [upd_ne nb]; exact q1, q2.lat L0, q3⟩
  · obtain ⟨zs, q⟩ := R.fok b hb
    exact ⟨zs, by rw [upd_ne (fun w => nf (by rw [← w]; exact hb))]; exact q⟩
theorem Ext.updNew {p : Addr} {o : HO} {r1 : List Slot} (X : Ext W H σ r W1 H1 σ' r1) (hp : H p = none) : Ext W H σ r W1 (upd H1 p o) σ' r1 :=
  ⟨X.f, X.fn, X.l, fun a u e nl no => by rw [upd_ne (ne_of_none e hp)]; exact X.keep a u e nl no, fun a ha => by
    by_cases e : a = p
    · subst e; rw [upd_same]; simp
    · rw [upd_ne e]; exact X.dom a ha, X.on⟩
end
/-- the turns of a comprehension -/
def lcD (g : TGT) (tt : ET) (te : ED) (vs : List Nat) : List PyData → List PyData → Sta → Rs (List PyData)
  | [], acc, st => .ok acc st
  | d :: ds, acc, st => match g d st with
    | none => .bad
    | some s1 => (tt s1).nox.bind fun b s2 => if b = true then (te s2).nox.bind fun y s3 => lcD g tt te vs ds (acc ++ [y]) (wipeS vs s3) else lcD g tt te vs ds acc (wipeS vs s2)
/-- [e for x in xs if t]: a new list -/
def nLc (f : EL) (g : TGT) (tt : ET) (te : ED) (vs : List Nat) : EL := fun st => (f st).bind fun ds s1 => (lcD g tt te vs ds [] (wipeS vs s1)).bind fun acc s2 => .ok acc { s2 with r := backR s1.r s2.r vs }
theorem lc_read {K : PySem.W.Frag} {E : EX} {w : Bool} {is vs : List Nat} {f : EL} {g : TGT} {tt : ET} {te : ED} (hv : ∀ i ∈ is, i ∈ vs) {σ : L2.St} {H : Hp} {Q : VK} (h : tN K E (nLc f g tt te vs) σ H Q) :
    tLc (tI K E w f) (tG K w is g) (tT K E0 tt) (tD K E0 te) vs σ H Q := by
  obtain ⟨W, st, R, h⟩ := h
  refine ⟨W, st, R, ?_⟩
  unfold nLc at h
  cases q : f st with
  | bad => rw [q] at h; exact h
  | ex c s1 => rw [q] at h; exact h
  | ok ds s1 =>
    rw [q] at h
    replace h : Res K E σ W H st.r ((lcD g tt te vs ds [] (wipeS vs s1)).bind fun acc s2 => .ok acc { s2 with r := backR s1.r s2.r vs }) fun ds st' W' H' => ∀ p, Fre K W' H' σ st'.r p ds → H p = none → Q (.ref p) H' := h
    intro W1 H1 R1 X1 J J0 D hD
    obtain ⟨hz, hJ⟩ := J0
    obtain ⟨Rw, ow⟩ := R1.wiped vs
    have g0 := Fok.new (p := D) (o := .lst []) Rw.fok hD
    have F0 := Rw.fre hD g0 upd_same (.nil) (ds := []) (Nat.zero_le _)
    have hHD : H D = none := by
      cases e : H D with
      | none => rfl
      | some o => exact absurd hD (X1.dom D (by rw [e]; simp))
    -- what is wanted at the end
    have fin : ∀ Wd Hd st2 acc, Rel K Wd Hd (wipe σ vs) st2 → Fre K Wd Hd (wipe σ vs) st2.r D acc → Ext W1 H1 (wipe σ vs) (wipeR s1.r vs) Wd Hd (wipe σ vs) st2.r → lcD g tt te vs ds [] (wipeS vs s1) = .ok acc st2 → Q (.ref D) Hd := fun Wd Hd st2 acc R2 F2 X2 e => by
      obtain ⟨Rb, Xb⟩ := R1.backed R2 X2
      have h' := h
      rw [e] at h'
      refine h' Wd Hd Rb (X1.trans Xb) D ⟨F2.at_, F2.z, F2.f, F2.l, fun ho => ?_⟩ hHD
      rcases Xb.on D ho with z | z
      · obtain ⟨_, _, xs, q'⟩ := R1.ownF z
        rw [hD] at q'; cases q'
      · -- own behind, new: it is own in the block, or an old own slot
        obtain ⟨i, l, hi, qi⟩ := ho
        by_cases hiv : i ∈ vs
        · have hil : i < st2.r.length := by rw [← backR_len s1.r st2.r vs]; exact (List.getElem?_eq_some_iff.mp hi).1
          rw [backR_in hiv hil] at hi
          have hl2 : st2.r.length = s1.r.length := by rw [← R2.len, wipe_length, R1.len]
          rw [List.getD_eq_getElem?_getD, List.getElem?_eq_getElem (by omega)] at hi
          have hi' : s1.r[i]? = some (.own l) := by rw [List.getElem?_eq_getElem (by omega)]; exact hi
          obtain ⟨b, xs, z1, z2, _⟩ := R1.own i l hi'
          rw [qi] at z1; cases z1
          rw [hD] at z2; cases z2
        · rw [backR_out hiv] at hi
          exact F2.o ⟨i, l, hi, by rw [wipe_out hiv]; exact qi⟩
    -- the result of the turns
    have okr : ∃ acc st2, lcD g tt te vs ds [] (wipeS vs s1) = .ok acc st2 := by
      cases e : lcD g tt te vs ds [] (wipeS vs s1) with
      | ok acc st2 => exact ⟨acc, st2, rfl⟩
      | bad => rw [e] at h; exact h.elim
      | ex c st2 =>
        exfalso
        have : ∀ ds acc st c st2, lcD g tt te vs ds acc st ≠ .ex c st2 := by
          intro ds
          induction ds with
          | nil => intro acc st c st2 z; cases z
          | cons d ds ih =>
            intro acc st c st2 z
            unfold lcD at z
            split at z
            · cases z
            · cases e1 : (tt _).nox with
              | bad => rw [e1] at z; cases z
              | ex c' s' =>
                rename_i s1' _
                cases e2 : tt s1' <;> rw [e2] at e1 <;> cases e1
              | ok b s2 =>
                rw [e1] at z
                simp only [Rs.bind_ok] at z
                split at z
                · cases e3 : (te s2).nox with
                  | bad => rw [e3] at z; cases z
                  | ex c' s' => cases e2 : te s2 <;> rw [e2] at e3 <;> cases e3
                  | ok y s3 => rw [e3] at z; exact ih _ _ _ _ z
                · exact ih _ _ _ _ z
        exact this _ _ _ _ _ e
    obtain ⟨accF, stF, okF⟩ := okr
    refine ⟨fun i m Hi => m = ds.length - i ∧ i ≤ ds.length ∧ ∃ Wd st2 acc, Rel K Wd Hi (wipe σ vs) st2 ∧ Fre K Wd Hi (wipe σ vs) st2.r D acc ∧ acc.length ≤ i ∧ Lat W1 H1 Wd Hi ∧ Ext W1 H1 (wipe σ vs) (wipeR s1.r vs) Wd Hi (wipe σ vs) st2.r ∧ lcD g tt te vs (ds.drop i) acc st2 = .ok accF stF ∧ wipeR st2.r vs = st2.r, ⟨ds.length, ?_⟩, ?_⟩
    · refine ⟨by omega, Nat.zero_le _, W1, wipeS vs s1, [], g0.rel Rw, F0, Nat.le_refl _, g0.lat, Ext.updNew .refl hD, okF, ?_⟩
      refine List.ext_getElem? fun i => ?_
      show (wipeR (wipeR s1.r vs) vs)[i]? = (wipeR s1.r vs)[i]?
      by_cases hiv : i ∈ vs
      · by_cases hil : i < s1.r.length
        · rw [wipeR_in hiv (by rw [wipeR_len]; exact hil), wipeR_in hiv hil]
        · rw [List.getElem?_eq_none (by rw [wipeR_len, wipeR_len]; omega), List.getElem?_eq_none (by rw [wipeR_len]; omega)]
      · rw [wipeR_out hiv]
    · rintro i m Hi ⟨rfl, hi, Wd, st2, acc, R2, F2, hacc, L2', X2, e2, ew⟩
      obtain ⟨j1, j2⟩ := hJ i Wd Hi L2' R2.fok
      by_cases hlt : i < ds.length
      · refine .inr ?_
        have hd : ds[i]? = some ds[i] := List.getElem?_eq_getElem hlt
        obtain ⟨go, yl⟩ := j1 _ hd
        refine ⟨go, fun H' => ∃ Wd st2 acc, Rel K Wd H' (wipe σ vs) st2 ∧ Fre K Wd H' (wipe σ vs) st2.r D acc ∧ acc.length ≤ i + 1 ∧ Lat W1 H1 Wd H' ∧ Ext W1 H1 (wipe σ vs) (wipeR s1.r vs) Wd H' (wipe σ vs) st2.r ∧ lcD g tt te vs (ds.drop (i + 1)) acc st2 = .ok accF stF ∧ wipeR st2.r vs = st2.r, fun H' n => ⟨ds.length - (i + 1), by omega, rfl, hlt, n⟩, fun x H' hy => ?_⟩
        obtain ⟨W3, g3, hx⟩ := yl x H' hy
        rw [List.drop_eq_getElem_cons hlt] at e2
        unfold lcD at e2
        cases eg : g ds[i] st2 with
        | none => rw [eg] at e2; cases e2
        | some s3 =>
          rw [eg] at e2
          dsimp only at e2
          refine ⟨W3, st2, ds[i], s3, g3.rel R2, hx, eg, fun σ3 o3 R3 X3 => ⟨(wipe_off o3 hv).trans wipe_wipe, ?_⟩⟩
          have F3 : Fre K W3 H' (wipe σ vs) st2.r D acc := F2.ext (st := st2) R2 g3.ext
          have F3' : Fre K W3 H' σ3 s3.r D acc := F3.ext (st := st2) (g3.rel R2) X3
          have X23 : Ext W1 H1 (wipe σ vs) (wipeR s1.r vs) W3 H' σ3 s3.r := (X2.trans g3.ext).trans X3
          -- the test
          have ht : Res K E0 σ3 W3 H' s3.r (tt s3) fun b s4 W4 H4 => Rel K W4 H4 σ3 s4 ∧ Ext W3 H' σ3 s3.r W4 H4 σ3 s4.r ∧ tt s3 = .ok b s4 := by
            cases et : tt s3 with
            | ok b s4 => exact fun W4 H4 R4 X4 => ⟨R4, X4, rfl⟩
            | ex c s4 => rw [et] at e2; simp [Rs.nox] at e2
            | bad => rw [et] at e2; simp [Rs.nox] at e2
          have wipedRel : ∀ {W4 H4 s4}, Rel K W4 H4 σ3 s4 → Ext W1 H1 (wipe σ vs) (wipeR s1.r vs) W4 H4 σ3 s4.r → Rel K W4 H4 (wipe σ vs) (wipeS vs s4) ∧ Ext W1 H1 (wipe σ vs) (wipeR s1.r vs) W4 H4 (wipe σ vs) (wipeS vs s4).r ∧ ∀ a, Own (wipe σ vs) (wipeS vs s4).r a → Own σ3 s4.r a := fun {W4 H4 s4} R4 X4 => by
            obtain ⟨r1, o1⟩ := R4.wiped vs
            have e3 : wipe σ3 vs = wipe σ vs := (wipe_off o3 hv).trans wipe_wipe
            rw [e3] at r1 o1
            exact ⟨r1, ⟨X4.f, X4.fn, X4.l, X4.keep, X4.dom, fun a ha => X4.on a (o1 a ha)⟩, o1⟩
          have ww : ∀ s4 : Sta, wipeR (wipeS vs s4).r vs = (wipeS vs s4).r := fun s4 => by
            refine List.ext_getElem? fun i => ?_
            show (wipeR (wipeR s4.r vs) vs)[i]? = (wipeR s4.r vs)[i]?
            by_cases hiv : i ∈ vs
            · by_cases hil : i < s4.r.length
              · rw [wipeR_in hiv (by rw [wipeR_len]; exact hil), wipeR_in hiv hil]
              · rw [List.getElem?_eq_none (by rw [wipeR_len, wipeR_len]; omega), List.getElem?_eq_none (by rw [wipeR_len]; omega)]
            · rw [wipeR_out hiv]
          refine tT_of R3 (ht.imp fun b s4 W4 H4 _ R4 X4 ⟨_, _, et⟩ => ?_)
          rw [et] at e2
          simp only [Rs.nox_ok, Rs.bind_ok] at e2
          have F4 : Fre K W4 H4 σ3 s4.r D acc := F3'.ext (st := s3) R3 X4
          have X24 := X23.trans X4
          have La : Lat W1 H1 W4 H4 := (L2'.trans g3.lat).trans ((g3.rel R2).lat (X3.trans X4))
          cases b with
          | false =>
            rw [if_neg Bool.false_ne_true] at e2 ⊢
            obtain ⟨r1, x1, o1⟩ := wipedRel R4 X24
            exact ⟨W4, wipeS vs s4, acc, r1, ⟨F4.at_, F4.z, F4.f, F4.l, fun ho => F4.o (o1 D ho)⟩, by omega, La, x1, e2, ww s4⟩
          | true =>
            rw [if_pos rfl] at e2 ⊢
            have hte : Res K E0 σ3 W4 H4 s4.r (te s4) fun y s5 W5 H5 => te s4 = .ok y s5 := by
              cases et : te s4 with
              | ok b s4 => exact fun W4 H4 R4 X4 => rfl
              | ex c s4 => rw [et] at e2; simp [Rs.nox] at e2
              | bad => rw [et] at e2; simp [Rs.nox] at e2
            refine tD_of R4 (hte.imp fun y s5 W5 H5 _ R5 X5 ety v hvy => ?_)
            rw [ety] at e2
            simp only [Rs.nox_ok, Rs.bind_ok] at e2
            have F5 : Fre K W5 H5 σ3 s5.r D acc := F4.ext (st := s4) R4 X5
            obtain ⟨⟨accV, ea, hacV⟩, z5, f5, l5, o5⟩ := F5
            have hlen : acc.length < sizeLine := Nat.lt_of_lt_of_le (Nat.lt_of_le_of_lt hacc hlt) hz
            refine ⟨accV, ea, by rw [hacV.length]; exact hlen, ?_⟩
            obtain ⟨R6, F6, L6⟩ := R5.updFre (es := acc ++ [y]) ⟨⟨accV, ea, hacV⟩, z5, f5, l5, o5⟩ (hacV.append (.cons hvy .nil)) (by rw [List.length_append]; exact hlen)
            have X26 : Ext W1 H1 (wipe σ vs) (wipeR s1.r vs) W5 (upd H5 D (.lst (accV ++ [v]))) σ3 s5.r := (X24.trans X5).updNew hD
            obtain ⟨r1, x1, o1⟩ := wipedRel R6 X26
            refine ⟨W5, wipeS vs s5, acc ++ [y], r1, ⟨F6.at_, F6.z, F6.f, F6.l, fun ho => F6.o (o1 D ho)⟩, by rw [List.length_append]; show acc.length + 1 ≤ _; omega, (La.trans (R4.lat X5)).trans L6, x1, e2, ww s5⟩
      · have e : i = ds.length := by omega
        subst e
        rw [List.drop_length] at e2
        unfold lcD at e2
        cases e2
        exact .inl ⟨j2 rfl, fin Wd Hi _ _ R2 F2 X2 okF⟩
end DL
/-! DH: comprehensions as rules, loops, statements. -/
namespace DL
open PySem PySem.Spec PyProof.Rows L2
section
variable {X : Cx} {E : EX} {w : Bool} {is vs : List Nat} {f : EL} {g : TGT} {tt : ET} {te : ED} {elt tg iter : Expr} {ifs : List Expr} {scope : Scope} {own : List (Str × Nat)} {pos : Pos}
def tYs : ET := fun st => .ok true st
theorem dts_nil : PTs X [] (tT X.K E tYs) := ⟨fun pins s σ H Q I ⟨W, st, R, h⟩ => pts_nil.run pins s σ H Q I (h W H R .refl)⟩
theorem dts_one {c : Expr} {ct : ET} (h : PT X c (tT X.K E ct)) : PTs X [c] (tT X.K E ct) := pts_one h
theorem dn_lc (hc : X.calm = true) (hN : X.N.Nodup) (hi : PI X tg iter (tI X.K E w f)) (ok : BlkOk X.N X.env.scope scope own) (hv : ∀ i ∈ is, i ∈ own.map (·.2))
    (hg : ∀ (s : Shared) (H : Hp) (C : Addr) (cl : List (Str × Addr)) (fp : List Addr), PG (X.blk s H scope (compEnvC scope cl C X.env) fp) tg (tG X.K w is g))
    (ht : ∀ (s : Shared) (H : Hp) (C : Addr) (cl : List (Str × Addr)) (fp : List Addr), PTs (X.blk s H scope (compEnvC scope cl C X.env) fp) ifs (tT X.K E0 tt))
    (he : ∀ (s : Shared) (H : Hp) (C : Addr) (cl : List (Str × Addr)) (fp : List Addr), PE (X.blk s H scope (compEnvC scope cl C X.env) fp) elt (tD X.K E0 te)) (hs : ∀ x, foldedSetIterable iter X.env x = pure x := by intro _; rfl) :
    PE X (.ListComp elt [⟨tg, iter, ifs, 0⟩] scope pos) (tN X.K E (nLc f g tt te (own.map (·.2)))) :=
  pe_imp (pe_lc hc hN hi ok hg ht he hs) fun _ _ _ h => lc_read hv h

/-! ### statements -/
def sAsg (g : TGT) (f : ED) : SD := fun st => (f st).run fun d s => match g d s with
  | some s' => .nx s'
  | none => .bad
def sOwn (i : Nat) (f : EL) : SD := fun st => (f st).run fun ds s => .nx { s with r := s.r.set i (.own ds) }
theorem tS_of {K : PySem.W.Frag} {f : SD} {D : Ends} {σ : L2.St} {H : Hp} {W : Wd} {st : Sta} (R : Rel K W H σ st) (h : ResS K E σ W H st.r (f st) D) : tS K E f D σ H := ⟨W, st, R, h⟩
theorem asg_read {K : PySem.W.Frag} {f : ED} {D : Ends} {σ : L2.St} {H : Hp} (h : tS K E (sAsg g f) D σ H) : tAsg (tD K E f) (tG K false is g) D σ H := by
  obtain ⟨W, st, R, h⟩ := h
  refine tD_of R (h.then.imp fun d s1 W1 H1 _ R1 X1 h1 v hv => ?_)
  cases eg : g d s1 with
  | none => rw [eg] at h1; exact h1.elim
  | some s2 =>
    rw [eg] at h1
    exact ⟨W1, s1, d, s2, R1, .inl hv, eg, fun σ' _ R2 X2 => h1 σ' W1 H1 R2 X2⟩
theorem own_read {K : PySem.W.Frag} {f : EL} {i : Nat} {D : Ends} {σ : L2.St} {H : Hp} (h : tS K E (sOwn i f) D σ H) : tAsg (tN K E f) (gName i) D σ H := by
  obtain ⟨W, st, R, h⟩ := h
  unfold sOwn at h
  refine tN_of R ?_
  cases q : f st with
  | bad => rw [q] at h; exact h.elim
  | ex c s1 => rw [q] at h; exact fun W1 H1 R1 X1 => h σ W1 H1 R1 X1
  | ok ds s1 =>
    rw [q] at h
    intro W1 H1 R1 X1 p hp hn
    obtain ⟨R2, X2⟩ := R1.setOwn i hp
    exact h (σ.set i (some (.ref p))) W1 H1 R2 (X2 _ _ _ _ X1 hn)
theorem ds_asg {e : Expr} {fa : ED} (he : PE X e (tD X.K E fa)) (hg : PG X tg (tG X.K false is g)) (hs : swapsWithSole [tg] e pos.line X.env = pure false := by rfl) (hw : swappedStores [tg] e X.env = pure none := by rfl)
    (h1 : (assignEach [tg] X.env).map (·.2) = [assign tg X.env] := by rfl) : PS X (.Assign [tg] e pos) (tS X.K E (sAsg g fa)) := ps_imp (ps_asg he hg hs hw h1) fun _ _ _ h => asg_read h
theorem ds_own (i : Nat) {e : Expr} {y : Str} {py : Pos} (he : PE X e (tN X.K E f)) (hN : X.N.Nodup) (hi : X.N[i]? = some y := by rfl) (hx : Loc X.env.scope y := by first | exact Or.inl rfl | exact Or.inr rfl) (hf : X.fn y = true ∨ X.env.scope.names.lookup y = some .local := by first | exact .inl rfl | exact .inr rfl)
    (hs : swapsWithSole [.Name y py] e pos.line X.env = pure false := by rfl) (hw : swappedStores [.Name y py] e X.env = pure none := by rfl)
    (h1 : (assignEach [.Name y py] X.env).map (·.2) = [assign (.Name y py) X.env] := by rfl) : PS X (.Assign [.Name y py] e pos) (tS X.K E (sOwn i f)) := ps_imp (ps_asg he (pg_name hN hi hx hf) hs hw h1) fun _ _ _ h => own_read h
/-- y = [..] on one line -/
theorem ds_lcOwn (i : Nat) {y : Str} {py : Pos} {spos : Pos} (hc : X.calm = true) (hN : X.N.Nodup) (hi : PI X tg iter (tI X.K E w f)) (ok : BlkOk X.N X.env.scope scope own) (hv : ∀ i ∈ is, i ∈ own.map (·.2))
    (hg : ∀ (s : Shared) (H : Hp) (C : Addr) (cl : List (Str × Addr)) (fp : List Addr), PG (X.blk s H scope (compEnvC scope cl C X.env) fp) tg (tG X.K w is g))
    (ht : ∀ (s : Shared) (H : Hp) (C : Addr) (cl : List (Str × Addr)) (fp : List Addr), PTs (X.blk s H scope (compEnvC scope cl C X.env) fp) ifs (tT X.K E0 tt))
    (he : ∀ (s : Shared) (H : Hp) (C : Addr) (cl : List (Str × Addr)) (fp : List Addr), PE (X.blk s H scope (compEnvC scope cl C X.env) fp) elt (tD X.K E0 te))
    (hy : X.N[i]? = some y := by rfl) (hyl : X.env.scope.names.lookup y = some .local := by rfl) (hsw : swapsWith (.ListComp elt [⟨tg, iter, ifs, 0⟩] scope pos) (some (.Name y py)) spos.line X.env = pure true := by exact sw_true rfl rfl rfl (by decide +kernel)) (hs : ∀ x, foldedSetIterable iter X.env x = pure x := by intro _; rfl) :
    PS X (.Assign [.Name y py] (.ListComp elt [⟨tg, iter, ifs, 0⟩] scope pos) spos) (tS X.K E (sOwn i (nLc f g tt te (own.map (·.2))))) := by
  refine ps_imp (ps_setLc hc hN hy hyl hsw hi ok hg ht he hs) fun D σ H h => ?_
  exact asgTN (fun σ H Q h => lc_read hv h) (own_read h)
where asgTN {te te' : TE} {g : TG} {D : Ends} {σ : L2.St} {H : Hp} (i : ∀ σ H Q, te σ H Q → te' σ H Q) (h : tAsg te g D σ H) : tAsg te' g D σ H := i σ H _ h
theorem new_read {K : PySem.W.Frag} {σ : L2.St} {H : Hp} {Q : VK} (h : tD K E (eLst f) σ H Q) : tN K E f σ H Q := by
  obtain ⟨W, st, R, h⟩ := h
  refine tN_of R ?_
  unfold eLst at h
  cases q : f st with
  | bad => rw [q] at h; exact h
  | ex c s1 => rw [q] at h; exact h
  | ok ds s1 =>
    rw [q] at h
    intro W1 H1 R1 X1 p hp hn
    obtain ⟨W2, R2, X2, z⟩ := hp.freeze R1 X1 hn
    exact h W2 H1 R2 X2 _ z
/-- the same, frozen at once -/
theorem ds_lcAsg (i : Nat) {y : Str} {py : Pos} {spos : Pos} (hc : X.calm = true) (hN : X.N.Nodup) (hi : PI X tg iter (tI X.K E w f)) (ok : BlkOk X.N X.env.scope scope own) (hv : ∀ i ∈ is, i ∈ own.map (·.2))
    (hg : ∀ (s : Shared) (H : Hp) (C : Addr) (cl : List (Str × Addr)) (fp : List Addr), PG (X.blk s H scope (compEnvC scope cl C X.env) fp) tg (tG X.K w is g))
    (ht : ∀ (s : Shared) (H : Hp) (C : Addr) (cl : List (Str × Addr)) (fp : List Addr), PTs (X.blk s H scope (compEnvC scope cl C X.env) fp) ifs (tT X.K E0 tt))
    (he : ∀ (s : Shared) (H : Hp) (C : Addr) (cl : List (Str × Addr)) (fp : List Addr), PE (X.blk s H scope (compEnvC scope cl C X.env) fp) elt (tD X.K E0 te))
    (hy : X.N[i]? = some y := by rfl) (hyl : X.env.scope.names.lookup y = some .local := by rfl) (hsw : swapsWith (.ListComp elt [⟨tg, iter, ifs, 0⟩] scope pos) (some (.Name y py)) spos.line X.env = pure true := by exact sw_true rfl rfl rfl (by decide +kernel)) (hs : ∀ x, foldedSetIterable iter X.env x = pure x := by intro _; rfl) :
    PS X (.Assign [.Name y py] (.ListComp elt [⟨tg, iter, ifs, 0⟩] scope pos) spos) (tS X.K E (sAsg (gN i) (eLst (nLc f g tt te (own.map (·.2)))))) := by
  refine ps_imp (ps_setLc hc hN hy hyl hsw hi ok hg ht he hs) fun D σ H h => ?_
  refine lc_read hv (new_read ?_)
  obtain ⟨W, st, R, h⟩ := h
  refine tD_of R (h.then.imp fun d s1 W1 H1 _ R1 X1 h1 v hv => ?_)
  obtain ⟨R2, X2⟩ := R1.setVal i hv
  exact h1 (σ.set i (some v)) W1 H1 R2 X2
/-! a, b = e1, e2: each part data or a new list -/
/-- what a slot gets -/
inductive Prt where
  | d (f : ED) | n (f : EL)
def Prt.ev : Prt → Sta → Rs Slot
  | .d f, st => (f st).bind fun d s => .ok (.val d) s
  | .n f, st => (f st).bind fun l s => .ok (.own l) s
def IsS (K : PySem.W.Frag) (W : Wd) (H : Hp) (σ : L2.St) (r : List Slot) (v : V) : Slot → Prop
  | .val d => IsD K W H v d
  | .own l => ∃ p, v = .ref p ∧ Fre K W H σ r p l
  | .non => False
def tP (K : PySem.W.Frag) (E : EX) (p : Prt) : TE := fun σ H Q => ∃ W st, Rel K W H σ st ∧ Res K E σ W H st.r (p.ev st) fun s st' W' H' => ∀ v, IsS K W' H' σ st'.r v s → (∀ l, s = .own l → ∀ a, v = .ref a → H a = none) → Q v H'
theorem dp_d {e : Expr} {fa : ED} (h : PE X e (tD X.K E fa)) : PE X e (tP X.K E (.d fa)) := by
  refine pe_imp h fun σ H Q ⟨W, st, R, h⟩ => tD_of R (h.then.imp fun d s1 W1 H1 _ R1 X1 h1 v hv => h1 W1 H1 R1 .refl v hv fun l e => by cases e)
theorem dp_n {e : Expr} (h : PE X e (tN X.K E f)) : PE X e (tP X.K E (.n f)) := by
  refine pe_imp h fun σ H Q ⟨W, st, R, h⟩ => tN_of R ?_
  unfold Prt.ev at h
  dsimp only at h
  cases q : f st with
  | bad => rw [q] at h; exact h
  | ex c s1 => rw [q] at h; exact h
  | ok ds s1 =>
    rw [q] at h
    intro W1 H1 R1 X1 p hp hn
    exact h W1 H1 R1 X1 _ ⟨p, rfl, hp⟩ fun l _ a ea => by cases ea; exact hn
def sPar2 (i j : Nat) (p q : Prt) : SD := fun st => (p.ev st).run fun a s1 => (q.ev s1).run fun b s2 => .nx { s2 with r := (s2.r.set i a).set j b }
def sPar3 (i j k : Nat) (p q o : Prt) : SD := fun st => (p.ev st).run fun a s1 => (q.ev s1).run fun b s2 => (o.ev s2).run fun c s3 => .nx { s3 with r := ((s3.r.set i a).set j b).set k c }
theorem tP_of {K : PySem.W.Frag} {p : Prt} {σ : L2.St} {H : Hp} {Q : VK} {W : Wd} {st : Sta} (R : Rel K W H σ st) (h : Res K E σ W H st.r (p.ev st) fun s st' W' H' => ∀ v, IsS K W' H' σ st'.r v s → (∀ l, s = .own l → ∀ a, v = .ref a → H a = none) → Q v H') : tP K E p σ H Q := ⟨W, st, R, h⟩
theorem IsS.ext {K : PySem.W.Frag} {W W1 : Wd} {H H1 : Hp} {σ σ' : L2.St} {st : Sta} {r1 : List Slot} {v : V} {s : Slot} (h : IsS K W H σ st.r v s) (R : Rel K W H σ st) (X : Ext W H σ st.r W1 H1 σ' r1) : IsS K W1 H1 σ' r1 v s := by
  cases s with
  | val d => exact IsD.lat (R.lat X) h
  | own l =>
    obtain ⟨p, e, hp⟩ := h
    exact ⟨p, e, hp.ext (st := st) R X⟩
  | non => exact h
/-- a slot gets such a value -/
theorem Rel.setS {K : PySem.W.Frag} {W : Wd} {H : Hp} {σ : L2.St} {st : Sta} (R : Rel K W H σ st) (i : Nat) {v : V} {s : Slot} (h : IsS K W H σ st.r v s) :
    Rel K W H (σ.set i (some v)) { st with r := st.r.set i s } ∧ ∀ W0 H0 r0 σ0, Ext W0 H0 σ0 r0 W H σ st.r → (∀ l, s = .own l → ∀ a, v = .ref a → H0 a = none) → Ext W0 H0 σ0 r0 W H (σ.set i (some v)) (st.r.set i s) := by
  cases s with
  | val d =>
    obtain ⟨R', X'⟩ := R.setVal i h
    exact ⟨R', fun W0 H0 r0 σ0 X0 _ => X0.trans X'⟩
  | own l =>
    obtain ⟨p, rfl, hp⟩ := h
    obtain ⟨R', X'⟩ := R.setOwn i hp
    exact ⟨R', fun W0 H0 r0 σ0 X0 q => X' _ _ _ _ X0 (q l rfl p rfl)⟩
  | non => exact h.elim
/-- another slot's value stays what it is -/
theorem IsS.other {K : PySem.W.Frag} {W : Wd} {H : Hp} {σ : L2.St} {st : Sta} (R : Rel K W H σ st) {i : Nat} {v u : V} {s t : Slot} (h : IsS K W H σ st.r v s) (h' : IsS K W H σ st.r u t) (ne : ∀ l m a b, s = .own l → t = .own m → v = .ref a → u = .ref b → a ≠ b) : IsS K W H (σ.set i (some v)) (st.r.set i s) u t := by
  cases t with
  | val d => exact h'
  | non => exact h'
  | own m =>
    obtain ⟨p, rfl, hp⟩ := h'
    refine ⟨p, rfl, hp.at_, hp.z, hp.f, hp.l, fun ⟨j, l, hj, q⟩ => ?_⟩
    by_cases hij : j = i
    · subst hij
      have hlt : j < st.r.length := by simpa using (List.getElem?_eq_some_iff.mp hj).1
      rw [List.getElem?_set_self (by rw [R.len]; exact hlt)] at q
      rw [List.getElem?_set_self hlt] at hj
      cases q; cases hj
      exact ne l m p p rfl rfl rfl rfl rfl
    · rw [List.getElem?_set_ne (Ne.symm hij)] at hj q
      exact hp.o ⟨j, l, hj, q⟩
theorem IsS.some {K : PySem.W.Frag} {W : Wd} {H : Hp} {σ : L2.St} {r : List Slot} {v : V} {l : List PyData} {a : Addr} (h : IsS K W H σ r v (.own l)) (e : v = .ref a) : H a ≠ none := by
  obtain ⟨p, rfl, ⟨xs, q, _⟩, _⟩ := h
  cases e
  rw [q]; simp
theorem ds_par2 (i j : Nat) {x y : Str} {a b : Expr} {p q : Prt} {px py pt : Pos} {kt k2 : Nat} {pt2 : Pos} (hc : X.calm = true) (hN : X.N.Nodup) (ha : PE X a (tP X.K E p)) (hb : PE X b (tP X.K E q)) (hi : X.N[i]? = some x := by rfl) (hj : X.N[j]? = some y := by rfl) (hij : i ≠ j := by decide)
    (hx : X.env.scope.names.lookup x = some .local := by rfl) (hy : X.env.scope.names.lookup y = some .local := by rfl)
    (hw : swappedStores [.Tuple [.Name x px, .Name y py] kt pt] (.Tuple [a, b] k2 pt2) X.env = pure (some [x, y]) := by rfl)
    (hs : swapsWithSole [.Tuple [.Name x px, .Name y py] kt pt] (.Tuple [a, b] k2 pt2) pos.line X.env = pure false := by rfl) (hs1 : starEach [a, b] X.env = (false, eval a X.env) :: starEach [b] X.env := by rfl) (hs2 : starEach [b] X.env = (false, eval b X.env) :: starEach [] X.env := by rfl) :
    PS X (.Assign [.Tuple [.Name x px, .Name y py] kt pt] (.Tuple [a, b] k2 pt2) pos) (tS X.K E (sPar2 i j p q)) := by
  refine ps_imp (ps_par hc hN hi hj hij hx hy (pa_cons ha (pa_cons hb pa_nil hs2) hs1) hw hs) fun D σ H h => ?_
  obtain ⟨W, st, R, h⟩ := h
  unfold sPar2 at h
  refine tP_of R ?_
  cases e1 : p.ev st with
  | bad => rw [e1] at h; exact h.elim
  | ex c s1 => rw [e1] at h; exact fun W1 H1 R1 X1 => h σ W1 H1 R1 X1
  | ok s s1 =>
    rw [e1] at h
    intro W1 H1 R1 X1 v hv hn1
    refine tP_of R1 ?_
    simp only [Rs.run_ok] at h
    cases e2 : q.ev s1 with
    | bad => rw [e2] at h; exact h.elim
    | ex c s2 => rw [e2] at h; exact fun W2 H2 R2 X2 => h σ W2 H2 R2 (X1.trans X2)
    | ok t s2 =>
      rw [e2] at h
      intro W2 H2 R2 X2 u hu hn2
      refine ⟨v, u, rfl, ?_⟩
      have hv2 := hv.ext R1 X2
      have ne : ∀ l m a b, s = .own l → t = .own m → v = .ref a → u = .ref b → a ≠ b := fun l m a b e1 e2 e3 e4 e5 => by
        subst e1 e2 e5
        exact hv.some e3 (hn2 m rfl a e4)
      obtain ⟨R3, X3⟩ := R2.setS i hv2
      obtain ⟨R4, X4⟩ := R3.setS j (IsS.other R2 (i := i) hv2 hu ne)
      refine h _ W2 H2 R4 (X4 W H st.r σ (X3 W H st.r σ (X1.trans X2) hn1) fun l e a ea => ?_)
      have z := hn2 l e a ea
      cases q : H a with
      | none => rfl
      | some o => exact absurd z (X1.dom a (by rw [q]; simp))
theorem ds_par3 (i j k : Nat) {x y z : Str} {a b c : Expr} {p q o : Prt} {px py pz pt : Pos} {kt k2 : Nat} {pt2 : Pos} (hc : X.calm = true) (hN : X.N.Nodup) (ha : PE X a (tP X.K E p)) (hb : PE X b (tP X.K E q)) (hcc : PE X c (tP X.K E o))
    (hi : X.N[i]? = some x := by rfl) (hj : X.N[j]? = some y := by rfl) (hk : X.N[k]? = some z := by rfl) (hij : i ≠ j := by decide) (hik : i ≠ k := by decide) (hjk : j ≠ k := by decide)
    (hx : X.env.scope.names.lookup x = some .local := by rfl) (hy : X.env.scope.names.lookup y = some .local := by rfl) (hz : X.env.scope.names.lookup z = some .local := by rfl)
    (hw : swappedStores [.Tuple [.Name x px, .Name y py, .Name z pz] kt pt] (.Tuple [a, b, c] k2 pt2) X.env = pure (some [x, y, z]) := by rfl)
    (hs : swapsWithSole [.Tuple [.Name x px, .Name y py, .Name z pz] kt pt] (.Tuple [a, b, c] k2 pt2) pos.line X.env = pure false := by rfl) (hs1 : starEach [a, b, c] X.env = (false, eval a X.env) :: starEach [b, c] X.env := by rfl) (hs2 : starEach [b, c] X.env = (false, eval b X.env) :: starEach [c] X.env := by rfl) (hs3 : starEach [c] X.env = (false, eval c X.env) :: starEach [] X.env := by rfl) :
    PS X (.Assign [.Tuple [.Name x px, .Name y py, .Name z pz] kt pt] (.Tuple [a, b, c] k2 pt2) pos) (tS X.K E (sPar3 i j k p q o)) := by
  refine ps_imp (ps_par3 hc hN hi hj hk hij hik hjk hx hy hz (pa_cons ha (pa_cons hb (pa_cons hcc pa_nil hs3) hs2) hs1) hw hs) fun D σ H h => ?_
  obtain ⟨W, st, R, h⟩ := h
  unfold sPar3 at h
  refine tP_of R ?_
  cases e1 : p.ev st with
  | bad => rw [e1] at h; exact h.elim
  | ex c s1 => rw [e1] at h; exact fun W1 H1 R1 X1 => h σ W1 H1 R1 X1
  | ok s s1 =>
    rw [e1] at h
    intro W1 H1 R1 X1 v hv hn1
    refine tP_of R1 ?_
    simp only [Rs.run_ok] at h
    cases e2 : q.ev s1 with
    | bad => rw [e2] at h; exact h.elim
    | ex c s2 => rw [e2] at h; exact fun W2 H2 R2 X2 => h σ W2 H2 R2 (X1.trans X2)
    | ok t s2 =>
      rw [e2] at h
      intro W2 H2 R2 X2 u hu hn2
      refine tP_of R2 ?_
      simp only [Rs.run_ok] at h
      cases e3 : o.ev s2 with
      | bad => rw [e3] at h; exact h.elim
      | ex c s3 => rw [e3] at h; exact fun W3 H3 R3 X3 => h σ W3 H3 R3 ((X1.trans X2).trans X3)
      | ok r s3 =>
        rw [e3] at h
        intro W3 H3 R3 X3 w hw3 hn3
        refine ⟨v, u, w, rfl, ?_⟩
        have hv2 := hv.ext R1 X2
        have hv3 := hv2.ext R2 X3
        have hu3 := hu.ext R2 X3
        have n1 : ∀ l m a b, s = .own l → t = .own m → v = .ref a → u = .ref b → a ≠ b := fun l m a b e1 e2 e3 e4 e5 => by
          subst e1 e2 e5
          exact hv.some e3 (hn2 m rfl a e4)
        have n2 : ∀ l m a b, s = .own l → r = .own m → v = .ref a → w = .ref b → a ≠ b := fun l m a b f1 f2 f3 f4 f5 => by
          subst f1 f2 f5
          exact hv2.some f3 (hn3 m rfl a f4)
        have n3 : ∀ l m a b, t = .own l → r = .own m → u = .ref a → w = .ref b → a ≠ b := fun l m a b f1 f2 f3 f4 f5 => by
          subst f1 f2 f5
          exact hu.some f3 (hn3 m rfl a f4)
        obtain ⟨R4, X4⟩ := R3.setS i hv3
        have hu4 := IsS.other R3 (i := i) hv3 hu3 n1
        have hw4 := IsS.other R3 (i := i) hv3 hw3 n2
        obtain ⟨R5, X5⟩ := R4.setS j hu4
        have hw5 := IsS.other R4 (i := j) hu4 hw4 n3
        obtain ⟨R6, X6⟩ := R5.setS k hw5
        have back1 : ∀ a, H1 a = none → H a = none := fun a z => by
          cases q : H a with
          | none => rfl
          | some o => exact absurd z (X1.dom a (by rw [q]; simp))
        have back2 : ∀ a, H2 a = none → H a = none := fun a z => by
          cases q : H a with
          | none => rfl
          | some o => exact absurd z ((X1.trans X2).dom a (by rw [q]; simp))
        exact h _ W3 H3 R6 (X6 W H st.r σ (X5 W H st.r σ (X4 W H st.r σ ((X1.trans X2).trans X3) hn1) fun l e a ea => back1 a (hn2 l e a ea)) fun l e a ea => back2 a (hn3 l e a ea))

/-! ### blocks -/
def sNx : SD := fun st => .nx st
def sSeq (a b : SD) : SD := fun st => match a st with
  | .nx s => b s
  | x => x
def sRet (f : ED) : SD := fun st => (f st).run fun d s => .rt d s
def sRetN : SD := fun st => .rt .none st
def sIf (c : ET) (a b : SD) : SD := fun st => (c st).run fun k s => if k = true then a s else b s
def sDrop (f : ED) : SD := fun st => (f st).run fun _ s => .nx s
def sBad : SD := fun _ => .bad
def sBrk : SD := fun st => .bk st
def sCnt : SD := fun st => .ct st
variable {st : Stmt} {rest : List Stmt} {sa sb : SD}
theorem dss_nil : PSs X [] (tS X.K E sNx) := pss_imp pss_nil fun D σ H ⟨W, st, R, h⟩ => h σ W H R .refl
theorem dss_cons (h1 : PS X st (tS X.K E sa)) (h2 : PSs X rest (tS X.K E sb)) : PSs X (st :: rest) (tS X.K E (sSeq sa sb)) := by
  refine pss_imp (pss_cons h1 h2) fun D σ H ⟨W, st, R, h⟩ => tS_of R ?_
  unfold sSeq at h
  cases e : sa st with
  | nx s1 => rw [e] at h; exact fun σ' W' H' R' X' => tS_of R' (ResS.base X' h)
  | rt d s1 => rw [e] at h; exact h
  | bk s1 => rw [e] at h; exact h
  | ct s1 => rw [e] at h; exact h
  | ex c s1 => rw [e] at h; exact h
  | bad => rw [e] at h; exact h
theorem dss_one (h1 : PS X st (tS X.K E sa)) : PSs X [st] (tS X.K E sa) := pss_one h1
theorem ds_ret {e : Expr} {fa : ED} (he : PE X e (tD X.K E fa)) : PS X (.Return (some e) pos) (tS X.K E (sRet fa)) := by
  refine ps_imp (ps_ret he) fun D σ H ⟨W, st, R, h⟩ => tD_of R (h.then.imp fun d s1 W1 H1 _ R1 X1 h1 v hv => h1 σ W1 H1 v R1 .refl hv)
theorem ds_retN : PS X (.Return none pos) (tS X.K E sRetN) := ps_imp ps_retN fun D σ H ⟨W, st, R, h⟩ => h σ W H .non R .refl .non
theorem ds_if {c : Expr} {a b : List Stmt} {ct : ET} (hc : PT X c (tT X.K E ct)) (ha : PSs X a (tS X.K E sa)) (hb : PSs X b (tS X.K E sb)) : PS X (.If c a b pos) (tS X.K E (sIf ct sa sb)) := by
  refine ps_imp (ps_if hc ha hb) fun D σ H ⟨W, st, R, h⟩ => tT_of R (h.then.imp fun k s1 W1 H1 _ R1 X1 h1 => ?_)
  cases k with
  | true => exact tS_of R1 h1
  | false => exact tS_of R1 h1
theorem ds_expr {e : Expr} {fa : ED} (he : PE X e (tD X.K E fa)) (hs : swapsWith e none pos.line X.env = pure false := by rfl) : PS X (.Expr e pos) (tS X.K E (sDrop fa)) := by
  refine ps_imp (ps_expr he hs) fun D σ H ⟨W, st, R, h⟩ => tD_of R (h.then.imp fun d s1 W1 H1 _ R1 X1 h1 v hv => h1 σ W1 H1 R1 .refl)
theorem ds_pass : PS X (.Pass pos) (tS X.K E sNx) := ps_imp ps_pass fun D σ H ⟨W, st, R, h⟩ => h σ W H R .refl
theorem ds_break : PS X (.Break pos) (tS X.K E sBrk) := ps_imp ps_break fun D σ H ⟨W, st, R, h⟩ => h σ W H R .refl
theorem ds_continue : PS X (.Continue pos) (tS X.K E sCnt) := ps_imp ps_continue fun D σ H ⟨W, st, R, h⟩ => h σ W H R .refl
theorem ds_never (s : Stmt) : PS X s (tS X.K E sBad) := ⟨fun pins s σ H D I ⟨W, st, R, h⟩ => h.elim⟩

/-! ### for, while -/
def forD (g : TGT) (b : SD) : List PyData → SD
  | [], st => .nx st
  | d :: ds, st => match g d st with
    | none => .bad
    | some s1 => match b s1 with
      | .nx s2 => forD g b ds s2
      | .ct s2 => forD g b ds s2
      | .bk s2 => .nx s2
      | x => x
def sFor (f : EL) (g : TGT) (b : SD) : SD := fun st => (f st).run fun ds s => forD g b ds s
theorem ds_for {iter : Expr} {body : List Stmt} (hp : PassesOwn (model X.prog X.w) X.A X.env X.xe) (hc : X.calm = true) (hi : PI X tg iter (tI X.K E w f)) (hg : PG X tg (tG X.K w is g)) (hb : PSs X body (tS X.K E sb))
    (hs : ∀ x, foldedSetIterable iter X.env x = pure x := by intro _; rfl) : PS X (.For tg iter body [] pos) (tS X.K E (sFor f g sb)) := by
  refine ps_imp (ps_for hp hc hi hg hb hs) fun D σ H ⟨W, st, R, h⟩ => ⟨W, st, R, ?_⟩
  refine h.then.imp fun ds s1 W1 H1 _ R1 X1 h1 J J0 => ?_
  obtain ⟨hz, hJ⟩ := J0
  refine ⟨fun i m σi Hi => m = ds.length - i ∧ i ≤ ds.length ∧ ∃ Wd st2, Rel X.K Wd Hi σi st2 ∧ Lat W1 H1 Wd Hi ∧ ResS X.K E σi Wd Hi st2.r (forD g sb (ds.drop i) st2) D, ⟨ds.length, by omega, Nat.zero_le _, W1, s1, R1, .refl _ _, h1⟩, ?_⟩
  rintro i m σi Hi ⟨rfl, hi, Wd, st2, R2, L2', h2⟩
  obtain ⟨j1, j2⟩ := hJ i Wd Hi L2' R2.fok
  by_cases hlt : i < ds.length
  · have hd : ds[i]? = some ds[i] := List.getElem?_eq_getElem hlt
    obtain ⟨go, yl⟩ := j1 _ hd
    rw [List.drop_eq_getElem_cons hlt] at h2
    unfold forD at h2
    refine .inr ⟨go, fun σ' H' => ∃ Wd st2, Rel X.K Wd H' σ' st2 ∧ Lat W1 H1 Wd H' ∧ ResS X.K E σ' Wd H' st2.r (forD g sb (ds.drop (i + 1)) st2) D, fun σ' H' n => ⟨ds.length - (i + 1), by omega, rfl, hlt, n⟩, fun x H' hy => ?_⟩
    obtain ⟨W3, g3, hx⟩ := yl x H' hy
    cases eg : g ds[i] st2 with
    | none => rw [eg] at h2; exact h2.elim
    | some s3 =>
      rw [eg] at h2
      dsimp only at h2
      refine ⟨W3, st2, ds[i], s3, g3.rel R2, hx, eg, fun σ3 o3 R3 X3 => ⟨W3, s3, R3, ?_⟩⟩
      have L3 : Lat W1 H1 W3 H' := L2'.trans g3.lat
      have h3 := ResS.base (g3.ext.trans X3) h2
      cases eb : sb s3 with
      | nx s4 => rw [eb] at h3; exact fun σ4 W4 H4 R4 X4 => ⟨W4, s4, R4, L3.trans (R3.lat X4), ResS.base X4 h3⟩
      | ct s4 => rw [eb] at h3; exact fun σ4 W4 H4 R4 X4 => ⟨W4, s4, R4, L3.trans (R3.lat X4), ResS.base X4 h3⟩
      | bk s4 => rw [eb] at h3; exact h3
      | rt d s4 => rw [eb] at h3; exact h3
      | ex c s4 => rw [eb] at h3; exact h3
      | bad => rw [eb] at h3; exact h3
  · have e : i = ds.length := by omega
    subst e
    rw [List.drop_length] at h2
    exact .inl ⟨j2 rfl, h2 σi Wd Hi R2 .refl⟩
/-- n turns at most -/
def whileD (c : ET) (b : SD) : Nat → SD
  | 0, _ => .bad
  | n + 1, st => (c st).run fun k s1 => if k = true then (match b s1 with
      | .nx s2 => whileD c b n s2
      | .ct s2 => whileD c b n s2
      | .bk s2 => .nx s2
      | x => x) else .nx s1
theorem ds_while (n : Nat) {c : Expr} {body : List Stmt} {ct : ET} (hp : PassesOwn (model X.prog X.w) X.A X.env X.xe) (hc : PT X c (tT X.K E ct)) (hb : PSs X body (tS X.K E sb)) : PS X (.While c body [] pos) (tS X.K E (whileD ct sb n)) := by
  refine ps_imp (ps_while hp hc hb) fun D σ H ⟨W, st, R, h⟩ => ?_
  refine ⟨fun m σi Hi => ∃ Wd st2, Rel X.K Wd Hi σi st2 ∧ ResS X.K E σi Wd Hi st2.r (whileD ct sb m st2) D, ⟨n, W, st, R, h⟩, ?_⟩
  rintro m σi Hi ⟨Wd, st2, R2, h2⟩
  cases m with
  | zero => exact h2.elim
  | succ m =>
    unfold whileD at h2
    refine tT_of R2 (h2.then.imp fun k s3 W3 H3 _ R3 X3 h3 => ?_)
    cases k with
    | false => exact h3 σi W3 H3 R3 .refl
    | true =>
      rw [if_pos rfl] at h3 ⊢
      refine ⟨fun σ' H' => ∃ Wd st2, Rel X.K Wd H' σ' st2 ∧ ResS X.K E σ' Wd H' st2.r (whileD ct sb m st2) D, fun σ' H' n => ⟨m, Nat.lt_succ_self m, n⟩, W3, s3, R3, ?_⟩
      cases eb : sb s3 with
      | nx s4 => rw [eb] at h3; exact fun σ4 W4 H4 R4 X4 => ⟨W4, s4, R4, ResS.base X4 h3⟩
      | ct s4 => rw [eb] at h3; exact fun σ4 W4 H4 R4 X4 => ⟨W4, s4, R4, ResS.base X4 h3⟩
      | bk s4 => rw [eb] at h3; exact h3
      | rt d s4 => rw [eb] at h3; exact h3
      | ex c s4 => rw [eb] at h3; exact h3
      | bad => rw [eb] at h3; exact h3
end
end DL
/-! DI: lists that change, the store, calls, defs. -/
namespace DL
open PySem PySem.Spec PyProof.Rows L2
section
variable {X : Cx} {E : EX} {pos apos p : Pos} {e a b o : Expr} {fa fb fo fv : ED} {x : Str}
/-! ### a list of one's own: append, pop, store, item, length -/
def sApp (i : Nat) (fa : ED) : SD := fun st => match st.r[i]? with
  | some (.own _) => (fa st).run fun d s => match s.r[i]? with
    | some (.own l) => if l.length < 16777216 then .nx { s with r := s.r.set i (.own (l ++ [d])) } else .bad
    | _ => .bad
  | _ => .bad
theorem own_same {K : PySem.W.Frag} {W W1 : Wd} {H H1 : Hp} {σ : L2.St} {st s1 : Sta} {i : Nat} {l l1 : List PyData} (R : Rel K W H σ st) (R1 : Rel K W1 H1 σ s1) (h : st.r[i]? = some (.own l)) (h1 : s1.r[i]? = some (.own l1)) :
    ∃ a xs ys, σ[i]? = some (some (.ref a)) ∧ H a = some (.lst xs) ∧ IsDs K W H xs l ∧ H1 a = some (.lst ys) ∧ IsDs K W1 H1 ys l1 := by
  obtain ⟨a, xs, e1, e2, e3, _⟩ := R.own i l h
  obtain ⟨b, ys, f1, f2, f3, _⟩ := R1.own i l1 h1
  rw [e1] at f1
  cases f1
  exact ⟨a, xs, ys, e1, e2, e3, f2, f3⟩
theorem ds_app (i : Nat) (ha : PE X e (tD X.K E fa)) (hN : X.N[i]? = some x := by rfl) (hv : Vis X.env.scope x := by first | exact Or.inl rfl | exact Or.inr (Or.inl rfl) | exact Or.inr (Or.inr rfl)) (hd : (x == ("__debug__" : Str)) = false := by decide) (hcd : (x == ("__classdict__" : Str)) = false := by decide)
    {npos : Pos} (hbase : attributeBase (.Name x npos) "append" X.env (eval (.Name x npos) X.env) = eval (.Name x npos) X.env := by rfl)
    (hfew : ((backTo p (starEach [e] X.env)).all (fun x => !x.1) && (backToKw p (keywordEach [] X.env)).all (fun x => x.1.isSome) && decide ([e].length + ([] : List Keyword).length + (if ([] : List Keyword).isEmpty then 0 else 1) < 30)) = true := by rfl)
    (hline : (apos.endLine == p.line) = true := by rfl) (hs : starEach [e] X.env = (false, eval e X.env) :: starEach [] X.env := by rfl) (hsw : swapsWith (.Call (.Attribute (.Name x npos) "append" apos) [e] [] p) none pos.line X.env = pure false := by rfl) :
    PS X (.Expr (.Call (.Attribute (.Name x npos) "append" apos) [e] [] p) pos) (tS X.K E (sApp i fa)) := by
  refine ps_imp (ps_expr (pe_bm PySem.F.plainAttrs_list PySem.F.slot_list_append PySem.F.type_list_append mt_append (pe_var hN hv hd hcd) (pa_cons ha pa_nil hs) hbase hfew hline hs) hsw) fun D σ H ⟨W, st, R, h⟩ => ?_
  unfold sApp at h
  cases e1 : st.r[i]? with
  | none => rw [e1] at h; exact h.elim
  | some s0 =>
    rw [e1] at h
    cases s0 with
    | non => exact h.elim
    | val _ => exact h.elim
    | own l0 =>
      dsimp only at h
      obtain ⟨a0, xs0, q1, q2, _⟩ := R.own i l0 e1
      refine ⟨.ref a0, q1, .inl ⟨rfl, xs0, SqL.of q2⟩, tD_of R (h.then.imp fun d s1 W1 H1 _ R1 X1 h1 v hv => ?_)⟩
      cases e2 : s1.r[i]? with
      | none => rw [e2] at h1; exact h1.elim
      | some t0 =>
        rw [e2] at h1
        cases t0 with
        | non => exact h1.elim
        | val _ => exact h1.elim
        | own l =>
          dsimp only at h1
          by_cases hz : l.length < 16777216
          · rw [if_pos hz] at h1
            obtain ⟨a, xs, ys, z1, z2, z3, z4, z5⟩ := own_same R R1 e1 e2
            rw [q1] at z1
            cases z1
            have hys := z5.length
            have hlt : ys.length < sizeLine := by rw [hys, sizeLine_eq]; exact hz
            refine ⟨a0, ys, v, rfl, rfl, z4, hlt, ?_⟩
            obtain ⟨R2, X2⟩ := R1.updOwn (l' := l ++ [d]) (ys := ys ++ [v]) e2 q1 (z5.append (.cons hv .nil)) (by rw [List.length_append]; rw [hys] at hlt; exact hlt)
            exact h1 σ W1 _ R2 X2
          · rw [if_neg hz] at h1; exact h1.elim
/-- x.pop(k), x a list of one's own, 0 ≤ k below its length -/
def ePop (i : Nat) (fa : ED) : ED := fun st => match st.r[i]? with
  | some (.own _) => (fa st).bind fun d s => match s.r[i]?, d with
    | some (.own l), .int k => if 0 ≤ k then (match l[k.toNat]? with
      | some y => .ok y { s with r := s.r.set i (.own (l.eraseIdx k.toNat)) }
      | none => .bad) else .bad
    | _, _ => .bad
  | _ => .bad
theorem erase_len {α : Type} (l : List α) (i : Nat) : (l.eraseIdx i).length ≤ l.length := len_erase l i
theorem de_pop (i : Nat) (ha : PE X e (tD X.K E fa)) (hN : X.N[i]? = some x := by rfl) (hv : Vis X.env.scope x := by first | exact Or.inl rfl | exact Or.inr (Or.inl rfl) | exact Or.inr (Or.inr rfl)) (hd : (x == ("__debug__" : Str)) = false := by decide) (hcd : (x == ("__classdict__" : Str)) = false := by decide)
    {npos : Pos} (hbase : attributeBase (.Name x npos) "pop" X.env (eval (.Name x npos) X.env) = eval (.Name x npos) X.env := by rfl)
    (hfew : ((backTo pos (starEach [e] X.env)).all (fun x => !x.1) && (backToKw pos (keywordEach [] X.env)).all (fun x => x.1.isSome) && decide ([e].length + ([] : List Keyword).length + (if ([] : List Keyword).isEmpty then 0 else 1) < 30)) = true := by rfl)
    (hline : (apos.endLine == pos.line) = true := by rfl) (hs : starEach [e] X.env = (false, eval e X.env) :: starEach [] X.env := by rfl) :
    PE X (.Call (.Attribute (.Name x npos) "pop" apos) [e] [] pos) (tD X.K E (ePop i fa)) := by
  refine pe_imp (pe_bm PySem.F.plainAttrs_list PySem.F.slot_list_pop PySem.F.type_list_pop mt_popAt (pe_var hN hv hd hcd) (pa_cons ha pa_nil hs) hbase hfew hline hs) fun σ H Q ⟨W, st, R, h⟩ => ?_
  unfold ePop at h
  cases e1 : st.r[i]? with
  | none => rw [e1] at h; exact h.elim
  | some s0 =>
    rw [e1] at h
    cases s0 with
    | non => exact h.elim
    | val _ => exact h.elim
    | own l0 =>
      dsimp only at h
      obtain ⟨a0, xs0, q1, q2, _⟩ := R.own i l0 e1
      refine ⟨.ref a0, q1, .inl ⟨rfl, xs0, SqL.of q2⟩, tD_of R (h.then.imp fun d s1 W1 H1 _ R1 X1 h1 v hv => ?_)⟩
      cases e2 : s1.r[i]? with
      | none => rw [e2] at h1; exact h1.elim
      | some t0 =>
        rw [e2] at h1
        cases t0 with
        | non => exact h1.elim
        | val _ => exact h1.elim
        | own l =>
          cases d with
          | int k =>
            cases hv
            dsimp only at h1
            by_cases h0 : 0 ≤ k
            · rw [if_pos h0] at h1
              cases ey : l[k.toNat]? with
              | none => rw [ey] at h1; exact h1.elim
              | some y =>
                rw [ey] at h1
                obtain ⟨a, xs, ys, z1, z2, z3, z4, z5⟩ := own_same R R1 e1 e2
                rw [q1] at z1
                cases z1
                have hkl : k.toNat < l.length := (List.getElem?_eq_some_iff.mp ey).1
                obtain ⟨_, _, _, _, _, _, _, hz⟩ := R1.own i l e2
                obtain ⟨u, hu, hyu⟩ := z5.get ey
                have hln := z5.length
                have hsz := sizeLine_eq
                refine ⟨a0, ys, k, k.toNat, u, rfl, rfl, z4, by omega, by omega, seqIndex_of h0 (by omega), hu, ?_⟩
                obtain ⟨R2, X2⟩ := R1.updOwn (l' := l.eraseIdx k.toNat) (ys := ys.eraseIdx k.toNat) e2 q1 (z5.erase k.toNat) (Nat.le_trans (erase_len _ _) hz)
                exact h1 W1 _ R2 X2 u (hyu.lat (R1.lat X2))
            · rw [if_neg h0] at h1; exact h1.elim
          | _ => exact h1.elim
/-- x[k] = v, x a list of one's own -/
def sSetO (i : Nat) (fb fv : ED) : SD := fun st => (fv st).run fun v s1 => match s1.r[i]? with
  | some (.own _) => (fb s1).run fun k s2 => match s2.r[i]?, k with
    | some (.own l), .int j => match ixN l.length j with
      | some n => .nx { s2 with r := s2.r.set i (.own (l.set n v)) }
      | none => .bad
    | _, _ => .bad
  | _ => .bad
theorem ds_setO (i : Nat) {npos spos : Pos} (hvv : PE X e (tD X.K E fv)) (hb : PE X b (tD X.K E fb)) (hN : X.N[i]? = some x := by rfl) (hv : Vis X.env.scope x := by first | exact Or.inl rfl | exact Or.inr (Or.inl rfl) | exact Or.inr (Or.inr rfl)) (hd : (x == ("__debug__" : Str)) = false := by decide) (hcd : (x == ("__classdict__" : Str)) = false := by decide)
    (hs : swapsWithSole [.Subscript (.Name x npos) b spos] e pos.line X.env = pure false := by rfl) (hw : swappedStores [.Subscript (.Name x npos) b spos] e X.env = pure none := by rfl)
    (h1 : (assignEach [.Subscript (.Name x npos) b spos] X.env).map (·.2) = [assign (.Subscript (.Name x npos) b spos) X.env] := by rfl)
    (hsub : ∀ v, assign (.Subscript (.Name x npos) b spos) X.env v = (do
      let ov ← holding [v] (eval (.Name x npos) X.env)
      let iv ← holding [v, ov] (eval b X.env)
      standAt spos
      holding [v, ov, iv] (setItem ov iv v)
      release [v, ov, iv] []) := by intro _; rfl) : PS X (.Assign [.Subscript (.Name x npos) b spos] e pos) (tS X.K E (sSetO i fb fv)) := by
  refine ps_imp (ps_asg hvv (pg_sub (pe_var hN hv hd hcd) hb set_list hsub) hs hw h1) fun D σ H ⟨W, st, R, h⟩ => tD_of R (h.then.imp fun v s1 W1 H1 _ R1 X1 h1 u hu => ?_)
  cases e1 : s1.r[i]? with
  | none => rw [e1] at h1; exact h1.elim
  | some s0 =>
    rw [e1] at h1
    cases s0 with
    | non => exact h1.elim
    | val _ => exact h1.elim
    | own l0 =>
      dsimp only at h1
      obtain ⟨a0, xs0, q1, q2, _⟩ := R1.own i l0 e1
      refine ⟨.ref a0, q1, tD_of R1 (h1.then.imp fun k s2 W2 H2 _ R2 X2 h2 w hw => ?_)⟩
      cases e2 : s2.r[i]? with
      | none => rw [e2] at h2; exact h2.elim
      | some t0 =>
        rw [e2] at h2
        cases t0 with
        | non => exact h2.elim
        | val _ => exact h2.elim
        | own l =>
          cases k with
          | int j =>
            cases hw
            dsimp only at h2
            cases en : ixN l.length j with
            | none => rw [en] at h2; exact h2.elim
            | some n =>
              rw [en] at h2
              obtain ⟨a, xs, ys, z1, z2, z3, z4, z5⟩ := own_same R1 R2 e1 e2
              rw [q1] at z1
              cases z1
              obtain ⟨_, _, _, _, _, _, _, hz⟩ := R2.own i l e2
              refine ⟨a0, ys, j, n, rfl, rfl, z4, by rw [z5.length]; exact en, ?_⟩
              obtain ⟨R3, X3⟩ := R2.updOwn (l' := l.set n v) (ys := ys.set n u) e2 q1 (z5.set n (hu.lat (R1.lat X2))) (by rw [List.length_set]; exact hz)
              exact h2 σ W2 _ R3 X3
          | _ => exact h2.elim
/-- len(x), x a list of one's own: it stays one's own -/
def eLenO (i : Nat) : ED := fun st => match st.r[i]? with
  | some (.own l) => .ok (.int l.length) st
  | _ => .bad
theorem de_lenO (i : Nat) {npos : Pos} (hm : X.mg "len" = none) (hN : X.N[i]? = some x := by rfl) (hv : Vis X.env.scope x := by first | exact Or.inl rfl | exact Or.inr (Or.inl rfl) | exact Or.inr (Or.inr rfl)) (hd : (x == ("__debug__" : Str)) = false := by decide) (hcd : (x == ("__classdict__" : Str)) = false := by decide)
    (hg : Gl X "len" := by rfl) (hs : starEach [.Name x npos] X.env = (false, eval (.Name x npos) X.env) :: starEach [] X.env := by rfl) : PE X (.Call (.Name "len" p) [.Name x npos] [] pos) (tD X.K E (eLenO i)) := by
  refine pe_imp (pe_callB call_len_seq hg hm PySem.boot_len (pa_cons (pe_var hN hv hd hcd) pa_nil hs) (by decide) (by decide) hs) fun σ H Q ⟨W, st, R, h⟩ => ?_
  unfold eLenO at h
  cases e1 : st.r[i]? with
  | none => rw [e1] at h; exact h.elim
  | some s0 =>
    rw [e1] at h
    cases s0 with
    | non => exact h.elim
    | val _ => exact h.elim
    | own l =>
      obtain ⟨a0, xs0, q1, q2, q3, _⟩ := R.own i l e1
      exact ⟨.ref a0, q1, a0, xs0, rfl, .inl (SqL.of q2), by rw [q3.length]; exact h W H R .refl _ (.int _)⟩
/-- x[e], x a list of one's own -/
def eIxO (i : Nat) (fb : ED) : ED := fun st => match st.r[i]? with
  | some (.own _) => (fb st).bind fun k s => match s.r[i]?, k with
    | some (.own l), .int j => match atI l j with
      | some y => .ok y s
      | none => .bad
    | _, _ => .bad
  | _ => .bad
theorem de_ixO (i : Nat) {npos : Pos} (hb : PE X b (tD X.K E fb)) (hN : X.N[i]? = some x := by rfl) (hv : Vis X.env.scope x := by first | exact Or.inl rfl | exact Or.inr (Or.inl rfl) | exact Or.inr (Or.inr rfl)) (hd : (x == ("__debug__" : Str)) = false := by decide) (hcd : (x == ("__classdict__" : Str)) = false := by decide)
    (hs : PlainIx b := by exact fun _ _ => rfl) : PE X (.Subscript (.Name x npos) b pos) (tD X.K E (eIxO i fb)) := by
  refine pe_imp (pe_ix ix_list (pe_var hN hv hd hcd) hb hs) fun σ H Q ⟨W, st, R, h⟩ => ?_
  unfold eIxO at h
  cases e1 : st.r[i]? with
  | none => rw [e1] at h; exact h.elim
  | some s0 =>
    rw [e1] at h
    cases s0 with
    | non => exact h.elim
    | val _ => exact h.elim
    | own l0 =>
      dsimp only at h
      obtain ⟨a0, xs0, q1, q2, _⟩ := R.own i l0 e1
      refine ⟨.ref a0, q1, tD_of R (h.then.imp fun d s1 W1 H1 _ R1 X1 h1 v hv => ?_)⟩
      cases e2 : s1.r[i]? with
      | none => rw [e2] at h1; exact h1.elim
      | some t0 =>
        rw [e2] at h1
        cases t0 with
        | non => exact h1.elim
        | val _ => exact h1.elim
        | own l =>
          cases d with
          | int j =>
            cases hv
            dsimp only at h1
            cases ey : atI l j with
            | none => rw [ey] at h1; exact h1.elim
            | some y =>
              rw [ey] at h1
              obtain ⟨a, xs, ys, z1, z2, z3, z4, z5⟩ := own_same R R1 e1 e2
              rw [q1] at z1
              cases z1
              obtain ⟨u, hu, hyu⟩ := atI_isd z5 ey
              exact ⟨a0, ys, j, u, rfl, rfl, SqL.of z4, hu, h1 W1 H1 R1 .refl u hyu⟩
          | _ => exact h1.elim
/-- x != [], x == []: a list of one's own compared with data -/
def eCmpO (neg : Bool) (i : Nat) (fb : ED) : ED := fun st => match st.r[i]? with
  | some (.own _) => (fb st).bind fun k s => match s.r[i]? with
    | some (.own l) => if shp (.list l) && shp k then .ok (.bool (if neg then !PyData.eqv (.list l) k else PyData.eqv (.list l) k)) s else .bad
    | _ => .bad
  | _ => .bad
theorem cmpO_read {neg : Bool} {i : Nat} {σ : L2.St} {H : Hp} {Q : VK} (h : tD X.K E (eCmpO neg i fb) σ H Q) : tOp (if neg then rNeD X.K else rEqD X.K) (tVar i) (tD X.K E fb) σ H Q := by
  obtain ⟨W, st, R, h⟩ := h
  unfold eCmpO at h
  cases e1 : st.r[i]? with
  | none => rw [e1] at h; exact h.elim
  | some s0 =>
    rw [e1] at h
    cases s0 with
    | non => exact h.elim
    | val _ => exact h.elim
    | own l0 =>
      dsimp only at h
      obtain ⟨a0, xs0, q1, q2, _⟩ := R.own i l0 e1
      refine ⟨.ref a0, q1, tD_of R (h.then.imp fun d s1 W1 H1 _ R1 X1 h1 v hv => ?_)⟩
      cases e2 : s1.r[i]? with
      | none => rw [e2] at h1; exact h1.elim
      | some t0 =>
        rw [e2] at h1
        cases t0 with
        | non => exact h1.elim
        | val _ => exact h1.elim
        | own l =>
          dsimp only at h1
          by_cases hc : (shp (.list l) && shp d) = true
          · rw [if_pos hc] at h1
            rw [Bool.and_eq_true] at hc
            obtain ⟨a, xs, ys, z1, z2, z3, z4, z5⟩ := own_same R R1 e1 e2
            rw [q1] at z1
            cases z1
            have c1 : PyData.canLayAll0 l = true := by simpa [PyData.canLay0] using shp_lay hc.1
            have dp1 : Dp X.K H1 (.ref a0) (.list l) := .lst (SqL.of z4) (IsDs.dp l c1 z5)
            have dp2 := IsD.dp d (shp_lay hc.2) hv
            cases neg with
            | true => exact ⟨_, _, dp1, dp2, hc.1, hc.2, h1 W1 H1 R1 .refl _ (.bl _)⟩
            | false => exact ⟨_, _, dp1, dp2, hc.1, hc.2, h1 W1 H1 R1 .refl _ (.bl _)⟩
          · rw [if_neg hc] at h1; exact h1.elim
theorem dt_neO (i : Nat) {npos : Pos} (hu : X.A.units + 64 < cLine) (hb : PE X b (tD X.K E fb)) (hN : X.N[i]? = some x := by rfl) (hv : Vis X.env.scope x := by first | exact Or.inl rfl | exact Or.inr (Or.inl rfl) | exact Or.inr (Or.inr rfl)) (hd : (x == ("__debug__" : Str)) = false := by decide) (hcd : (x == ("__classdict__" : Str)) = false := by decide) :
    PT X (.Compare (.Name x npos) [.NotEq] [b] pos) (tT X.K E (asB (eCmpO true i fb))) := pt_imp (pt_cmpR (op_neD hu) (pe_var hN hv hd hcd) hb (nobehind _ (by decide) (by decide))) fun _ _ _ h => cmpO_read (neg := true) (asB_read h)
theorem dt_eqO (i : Nat) {npos : Pos} (hu : X.A.units + 64 < cLine) (hb : PE X b (tD X.K E fb)) (hN : X.N[i]? = some x := by rfl) (hv : Vis X.env.scope x := by first | exact Or.inl rfl | exact Or.inr (Or.inl rfl) | exact Or.inr (Or.inr rfl)) (hd : (x == ("__debug__" : Str)) = false := by decide) (hcd : (x == ("__classdict__" : Str)) = false := by decide) :
    PT X (.Compare (.Name x npos) [.Eq] [b] pos) (tT X.K E (asB (eCmpO false i fb))) := pt_imp (pt_cmpR (op_eqD hu) (pe_var hN hv hd hcd) hb (nobehind _ (by decide) (by decide))) fun _ _ _ h => cmpO_read (neg := false) (asB_read h)

/-! ### lists in the store -/
def stoL (s : Sta) (d : PyData) : Option (Nat × List PyData) := match d with
  | .dict [(.list [], .int n)] => match s.s[n.toNat]? with
    | some (.lst l) => if 0 ≤ n then some (n.toNat, l) else none
    | _ => none
  | _ => none
theorem stoL_at {K : PySem.W.Frag} {W : Wd} {H : Hp} {σ : L2.St} {s : Sta} {d : PyData} {n : Nat} {l : List PyData} {v : V} (R : Rel K W H σ s) (hv : IsD K W H v d) (e : stoL s d = some (n, l)) :
    ∃ a xs, v = .ref a ∧ W.L[n]? = some a ∧ H a = some (.lst xs) ∧ IsDs K W H xs l ∧ l.length ≤ sizeLine := by
  unfold stoL at e
  split at e
  · split at e
    · rename_i m _ l' hl
      split at e
      · cases e
        cases hv with
        | @rf a k f =>
          have hk : (k : Int).toNat = k := by omega
          rw [hk] at hl ⊢
          obtain ⟨xs, q1, q2, q3⟩ := R.sto k a _ f hl
          exact ⟨a, xs, rfl, f, q1, q2, q3⟩
      · cases e
    · cases e
  · cases e
/-- r[e], r a list in the store -/
def eIxR (fa fb : ED) : ED := fun st => (fa st).bind fun x s1 => (fb s1).bind fun k s2 => match stoL s2 x, k with
  | some (_, l), .int j => match atI l j with
    | some y => .ok y s2
    | none => .bad
  | _, _ => .bad
theorem de_ixR (ha : PE X a (tD X.K E fa)) (hb : PE X b (tD X.K E fb)) (hs : PlainIx b := by exact fun _ _ => rfl) : PE X (.Subscript a b pos) (tD X.K E (eIxR fa fb)) := by
  refine pe_imp (pe_ix ix_list ha hb hs) fun σ H Q ⟨W, st, R, h⟩ => tD_of R (h.then.imp fun x s1 W1 H1 _ R1 X1 h1 v hv => tD_of R1 (h1.then.imp fun k s2 W2 H2 _ R2 X2 h2 u hu => ?_))
  cases es : stoL s2 x with
  | none => rw [es] at h2; exact h2.elim
  | some nl =>
    obtain ⟨n, l⟩ := nl
    rw [es] at h2
    cases k with
    | int j =>
      cases hu
      dsimp only at h2
      cases ey : atI l j with
      | none => rw [ey] at h2; exact h2.elim
      | some y =>
        rw [ey] at h2
        obtain ⟨a, xs, rfl, _, q1, q2, _⟩ := stoL_at R2 (hv.lat (R1.lat X2)) es
        obtain ⟨u, hu, hyu⟩ := atI_isd q2 ey
        exact ⟨a, xs, j, u, rfl, rfl, SqL.of q1, hu, h2 W2 H2 R2 .refl u hyu⟩
    | _ => exact h2.elim
/-- r[e] = v, r a list in the store -/
def sSetR (fa fb fv : ED) : SD := fun st => (fv st).run fun v s1 => (fa s1).run fun x s2 => (fb s2).run fun k s3 => match stoL s3 x, k with
  | some (n, l), .int j => match ixN l.length j with
    | some m => .nx { s3 with s := s3.s.set n (.lst (l.set m v)) }
    | none => .bad
  | _, _ => .bad
theorem ds_setR {spos : Pos} (hvv : PE X e (tD X.K E fv)) (ha : PE X a (tD X.K E fa)) (hb : PE X b (tD X.K E fb))
    (hs : swapsWithSole [.Subscript a b spos] e pos.line X.env = pure false := by rfl) (hw : swappedStores [.Subscript a b spos] e X.env = pure none := by rfl)
    (h1 : (assignEach [.Subscript a b spos] X.env).map (·.2) = [assign (.Subscript a b spos) X.env] := by rfl)
    (hsub : ∀ v, assign (.Subscript a b spos) X.env v = (do
      let ov ← holding [v] (eval a X.env)
      let iv ← holding [v, ov] (eval b X.env)
      standAt spos
      holding [v, ov, iv] (setItem ov iv v)
      release [v, ov, iv] []) := by intro _; rfl) : PS X (.Assign [.Subscript a b spos] e pos) (tS X.K E (sSetR fa fb fv)) := by
  refine ps_imp (ps_asg hvv (pg_sub ha hb set_list hsub) hs hw h1) fun D σ H ⟨W, st, R, h⟩ =>
    tD_of R (h.then.imp fun v s1 W1 H1 _ R1 X1 h1 u hu => tD_of R1 (h1.then.imp fun x s2 W2 H2 _ R2 X2 h2 w hw => tD_of R2 (h2.then.imp fun k s3 W3 H3 _ R3 X3 h3 q hq => ?_)))
  cases es : stoL s3 x with
  | none => rw [es] at h3; exact h3.elim
  | some nl =>
    obtain ⟨n, l⟩ := nl
    rw [es] at h3
    cases k with
    | int j =>
      cases hq
      dsimp only at h3
      cases en : ixN l.length j with
      | none => rw [en] at h3; exact h3.elim
      | some m =>
        rw [en] at h3
        obtain ⟨a, xs, rfl, f, q1, q2, q3⟩ := stoL_at R3 (hw.lat (R2.lat X3)) es
        refine ⟨a, xs, j, m, rfl, rfl, q1, by rw [q2.length]; exact en, ?_⟩
        obtain ⟨R4, X4⟩ := R3.updSto (l' := l.set m v) (ys := xs.set m u) f (q2.set m ((hu.lat (R1.lat X2)).lat (R2.lat X3))) (by rw [List.length_set]; exact q3)
        exact h3 σ W3 _ R4 X4
    | _ => exact h3.elim

/-! ### defs and calls; no repr is under way -/
structure FnG (P : Program) (w : World) (K : PySem.W.Frag) (mg : Str → Option Value) (base : Heap) (k : Nat) (f : Addr) (fd : FuncData) (ps : List Str) (sp : Sp) : Prop where
  arity : ∀ {vs : List V} {H : Hp} {Q : VK} {E : XK}, sp vs H Q E → vs.length = ps.length
  go : ∀ {A : Around} {up : List Env} {s : Shared} {H : Hp} {given : Args} {us : List Value} {vs : List V} {Q : VK} {E : XK}, A.guards = some [] → Room k A → Env0 P w K mg base A up s H → BindsTo s fd given (ps.zip us) →
    Vals vs us → sp vs H Q E → codeAny (model P w) A (.call (.ref f) given) (CR (L2.CX P w) up P w H s Q E) s
section
variable {P : Program} {w : World} {K : PySem.W.Frag} {mg : Str → Option Value} {base : Heap} {x qual : Str} {st : Stmt} {f : Addr} {fd : FuncData} {N ps : List Str} {k : Nat} {sp : Sp}
theorem FnG.of_body (F : Fun K x qual st f fd) (S : FnScope N ps (defScope st)) (ar : ∀ {vs : List V} {H : Hp} {Q : VK} {E : XK}, sp vs H Q E → vs.length = ps.length)
    (body : ∀ {cdv : Value} {A : Around} {up : List Env} {s : Shared} {H : Hp} {vs : List V} {Q : VK} {E : XK}, A.guards = some [] → Room k (A.deeper (envOfC qual (defScope st) s.heap.objs.size f cdv)) → sp vs H Q E →
      ∃ t, PSs (cxOf (L2.CX P w) P w K mg base N qual (defScope st) f cdv A up s H E) (defBody st) t ∧ t { nx := fun _ H' => Q .non H', rt := Q } (L2.start N vs) H) : FnG P w K mg base (k + 1) f fd ps sp := by
  obtain ⟨_, _, _, _, _, _, cdv, _, _, rfl, hlook, hcode⟩ := F.ex
  constructor
  · exact ar
  · intro A up s H given us vs Q E hgd room env0 binds rel hyp
    have n1 := ar hyp
    have inK : K.In s.heap := env0.mod.kin.keeps fun b o e => And.left (env0.bs b o e)
    have noL : s.heap.NoLimit := env0.mod.nolimit.keeps fun b o e => And.left (env0.bs b o e)
    have kinds : ∀ y ∈ ps.zip us, (defScope st).names.lookup y.1 = some .local ∨ ((defScope st).names.lookup y.1 = some .cell ∧ ((cellsFrom (s.heap.objs.size + 1) (defScope st).names []).lookup y.1).isSome = true) := by
      rintro ⟨m, u⟩ my
      exact (S.par m (List.of_mem_zip my).1).imp id fun z => ⟨z, PySem.W.cellsFrom_some _ _ _ (.inl z)⟩
    apply codeAny_call_function room.depth (inK _ _ hlook) rfl S.co S.gen rfl (PySem.W.codeRec_of inK hcode)
    apply binds
    refine wpAny_newFunctionEnv_cells S.kind kinds fun env isEnv s1 started => ?_
    subst isEnv
    obtain ⟨t, run, hyp'⟩ := body (cdv := cdv) (A := A) (up := up) (s := s) hgd (room.deeper _) hyp
    refine ⟨noL.keeps started.toInCall.keep, codeAny_func (wpAny_mono (run.run [] s1 (L2.start N vs) H _ (inv_start S room.hd env0 n1 rel started) hyp') (fun flow s' z => ?_) fun _ _ z => z)⟩
    cases flow
    case ret u => obtain ⟨v, _, H', J, rv, q⟩ := z; exact ⟨v, H', J.os, J.bare, J.base, J.hok, rv, q⟩
    case next => obtain ⟨_, H', J, q⟩ := z; exact ⟨V.non, H', J.os, J.bare, J.base, J.hok, rfl, q⟩
    case brk => obtain ⟨_, _, _, q⟩ := z; exact q.elim
    case cont => obtain ⟨_, _, _, q⟩ := z; exact q.elim
end
/-- the callee runs -/
theorem FnG.called {X : Cx} {k : Nat} {f : Addr} {fd : FuncData} {ps : List Str} {sp : Sp} {ex : XK} {pins : List (Addr × Obj)} {σ : L2.St} {H : Hp} {s : Shared} {Q : VK} {us : List Value} {vs : List V} (F : FnG X.prog X.w X.K X.mg X.base k f fd ps sp) (hgd : X.A.guards = some []) (hr : Room k X.A) (hb : Binds X.K fd ps [])
    (hx : Passes (L2.CX X.prog X.w) X ex) (I : Inv X pins σ H s) (r : Vals vs us) (h : sp vs H Q ex) : wpAny (model X.prog X.w) X.A (call (.ref f) us) (EP X pins σ Q) X.xe s := by
  have nu : (us ++ []).length = ps.length := by rw [List.append_nil, ← r.length]; exact F.arity h
  have b := hb s us I.kIn nu
  rw [List.append_nil] at b
  refine wpAny_call (codeAny_mono (F.go hgd hr I.env0 b r h) fun res s' z => ?_)
  match res, z with
  | .ok (.ret u), z => exact I.after z
  | .error e, z => exact hx pins σ H s e s' I z

inductive Rf where
  | ok (d : PyData) (S : List So) | ex (c : Nat) (S : List So) | bad
abbrev FD := List PyData → List So → Rf
/-- a def's promise by its mirror: no exception leaves it -/
def spD (K : PySem.W.Frag) (n : Nat) (m : FD) : Sp := fun vs H Q _ => vs.length = n ∧ ∃ W S ds, Rel K W H [] ⟨[], S⟩ ∧ IsDs K W H vs ds ∧ match m ds S with
  | .ok d S' => ∀ v W' H', Rel K W' H' [] ⟨[], S'⟩ → Ext W H [] [] W' H' [] [] → IsD K W' H' v d → Q v H'
  | _ => False
structure Lk (P : Program) (w : World) (K : PySem.W.Frag) (mg : Str → Option Value) (base : Heap) (k : Nat) (x : Str) (n : Nat) (m : FD) : Prop where
  ex : ∃ (f : Addr) (fd : FuncData) (ps : List Str), FnG P w K mg base k f fd ps (spD K n m) ∧ mg x = some (.ref f) ∧ PySem.W.keepIn K (.ref f) = true ∧ Binds K fd ps []
theorem Rel.bare {K : PySem.W.Frag} {W : Wd} {H : Hp} {σ : L2.St} {st : Sta} (R : Rel K W H σ st) : Rel K W H [] ⟨[], st.s⟩ :=
  ⟨fun i d h => by simp at h, fun i l h => by simp at h, fun i j l l' a h => by simp at h, rfl, R.sl, R.nd, R.sto, R.fok, R.lf⟩
/-- behind a call -/
theorem Rel.behind {K : PySem.W.Frag} {W W' : Wd} {H H' : Hp} {σ : L2.St} {st : Sta} {S' : List So} (R : Rel K W H σ st) (R' : Rel K W' H' [] ⟨[], S'⟩) (X : Ext W H [] [] W' H' [] []) : Rel K W' H' σ { st with s := S' } ∧ Ext W H σ st.r W' H' σ st.r := by
  have no : ∀ a, ¬ Own [] [] a := fun a ⟨i, l, h, _⟩ => by simp at h
  have L : Lat W H W' H' := R.bare.lat X
  refine ⟨⟨fun i d h => ?_, fun i l h => ?_, R.dj, R.len, R'.sl, R'.nd, R'.sto, R'.fok, R'.lf⟩, ⟨X.f, fun a h => ?_, X.l, fun a o h hl ho => X.keep a o h hl (no a), X.dom, fun a h => .inl h⟩⟩
  · obtain ⟨v, q, z⟩ := R.val i d h
    exact ⟨v, q, z.lat L⟩
  · obtain ⟨a, xs, q1, q2, q3, q4, q5, q6⟩ := R.own i l h
    refine ⟨a, xs, q1, X.keep a _ q2 q5 (no a), q3.lat L, fun z => ?_, fun z => ?_, q6⟩
    · rcases X.fn a z with z | z | z
      · exact q4 z
      · rw [q2] at z; cases z
      · exact no a z
    · obtain ⟨more, e1, e2⟩ := X.l
      rw [e1] at z
      rcases List.mem_append.mp z with z | z
      · exact q5 z
      · rw [e2 a z] at q2; cases q2
  · rcases X.fn a h with h | h | h
    · exact .inl h
    · exact .inr (.inl h)
    · exact absurd h (no a)
def eCall (m : FD) (fl : EL) : ED := fun st => (fl st).bind fun ds s => match m ds s.s with
  | .ok d S' => .ok d { s with s := S' }
  | _ => .bad
theorem call_read {K : PySem.W.Frag} {n : Nat} {m : FD} {fl : EL} {σ : L2.St} {H : Hp} {Q : VK} (h : tD K E (eCall m fl) σ H Q) (hn : ∀ st ds s, fl st = .ok ds s → ds.length = n) : tL K E fl σ H fun vs H1 => spD K n m vs H1 Q L2.E0 := by
  obtain ⟨W, st, R, h⟩ := h
  unfold eCall at h
  refine tL_of R ?_
  cases e : fl st with
  | bad => rw [e] at h; exact h
  | ex c s1 => rw [e] at h; exact h
  | ok ds s =>
    rw [e] at h
    intro W1 H1 R1 X1 vs hvs
    refine ⟨by rw [hvs.length]; exact hn st ds s e, W1, s.s, ds, R1.bare, hvs, ?_⟩
    simp only [Rs.bind_ok] at h
    cases em : m ds s.s with
    | bad => rw [em] at h; exact h.elim
    | ex c S' => rw [em] at h; exact h.elim
    | ok d S' =>
      rw [em] at h
      intro v W' H' R' X' hv
      obtain ⟨R2, X2⟩ := R1.behind R' X'
      exact h W' H' R2 (X1.trans X2) v hv
def LenOk (fl : EL) (n : Nat) : Prop := ∀ st ds s, fl st = .ok ds s → ds.length = n
theorem len_nil : LenOk eNil 0 := fun st ds s h => by cases h; rfl
theorem len_cons {fa : ED} {fl : EL} {n : Nat} (h : LenOk fl n) : LenOk (eCons fa fl) (n + 1) := fun st ds s e => by
  unfold eCons at e
  cases e1 : fa st with
  | bad => rw [e1] at e; cases e
  | ex c s1 => rw [e1] at e; cases e
  | ok d s1 =>
    rw [e1] at e
    simp only [Rs.bind_ok] at e
    cases e2 : fl s1 with
    | bad => rw [e2] at e; cases e
    | ex c s2 => rw [e2] at e; cases e
    | ok xs s2 =>
      rw [e2] at e
      cases e
      rw [List.length_cons, h _ _ _ e2]
theorem de_call {k n : Nat} {m : FD} {fl : EL} {es : List Expr} (L : Lk X.prog X.w X.K X.mg X.base k x n m) (hr : Room k X.A) (hgd : X.A.guards = some []) (ha : PA X (e :: es) (tL X.K E fl)) (hn : LenOk fl n) (hg : Gl X x := by rfl) (hdb : (x == ("__debug__" : Str)) = false := by decide)
    (he : starEach (e :: es) X.env = (false, eval e X.env) :: starEach es X.env := by rfl) (hpl : (backTo pos (starEach es X.env)).any (·.1) = false := by rfl) : PE X (.Call (.Name x p) (e :: es) [] pos) (tD X.K E (eCall m fl)) := by
  obtain ⟨f, fd, ps, F, hm, hk, hb⟩ := L.ex
  constructor
  intro pins s σ H Q I h
  refine wpAny_Call_Name_kw (ld_glob I hg hm (PySem.W.callWith_K (h₀ := X.base) I.ok.mod.kin hk (thn (ha.run pos pins s σ H _ I (call_read h hn)) fun us s1 z => ?_) he hpl) hdb)
  obtain ⟨vs, H1, I1, r, q⟩ := z
  exact ⟨I1.kIn, F.called hgd hr hb passL I1 r q⟩
theorem de_call0 {k : Nat} {m : FD} (L : Lk X.prog X.w X.K X.mg X.base k x 0 m) (hr : Room k X.A) (hgd : X.A.guards = some []) (hg : Gl X x := by rfl) (hdb : (x == ("__debug__" : Str)) = false := by decide) : PE X (.Call (.Name x p) [] [] pos) (tD X.K E (eCall m eNil)) := by
  obtain ⟨f, fd, ps, F, hm, hk, hb⟩ := L.ex
  constructor
  intro pins s σ H Q I h
  refine wpAny_Call_Name_kw (ld_glob I hg hm (PySem.W.callWith_K0 I.kIn hk (F.called (us := []) (vs := []) hgd hr hb passL I .nil ?_)) hdb)
  obtain ⟨W, st, R, q⟩ := call_read (n := 0) h len_nil
  exact q W H R .refl [] .nil

/-! ### a def -/
def finD (o : Ou) : Rf := match o with
  | .nx st => .ok .none st.s
  | .rt d st => .ok d st.s
  | _ => .bad
/-- a def of n parameters and N names in all -/
def mkFn (n N : Nat) (b : SD) : FD := fun ds S => if ds.length = n then finD (b ⟨ds.map Slot.val ++ List.replicate (N - n) .non, S⟩) else .bad
theorem start_rel {K : PySem.W.Frag} {W : Wd} {H : Hp} {S : List So} {vs : List V} {ds : List PyData} {N : List Str} (R : Rel K W H [] ⟨[], S⟩) (hvs : IsDs K W H vs ds) :
    Rel K W H (L2.start N vs) ⟨ds.map Slot.val ++ List.replicate (N.length - ds.length) .non, S⟩ ∧ ∀ a, ¬ Own (L2.start N vs) (ds.map Slot.val ++ List.replicate (N.length - ds.length) .non) a := by
  have hl := hvs.length
  have look : ∀ (i : Nat) (s : Slot), (ds.map Slot.val ++ List.replicate (N.length - ds.length) .non)[i]? = some s → (∃ d, s = .val d ∧ ds[i]? = some d) ∨ s = .non := fun i s h => by
    by_cases hi : i < ds.length
    · rw [List.getElem?_append_left (by simpa using hi), List.getElem?_map, List.getElem?_eq_getElem hi] at h
      cases h
      exact .inl ⟨_, rfl, List.getElem?_eq_getElem hi⟩
    · rw [List.getElem?_append_right (by simpa using hi), List.getElem?_replicate] at h
      split at h
      · cases h; exact .inr rfl
      · cases h
  refine ⟨⟨fun i d h => ?_, fun i l h => ?_, fun i j l l' a h => ?_, ?_, R.sl, R.nd, R.sto, R.fok, R.lf⟩, fun a ⟨i, l, h, _⟩ => ?_⟩
  · rcases look i _ h with ⟨d', e, hd⟩ | e
    · cases e
      obtain ⟨v, hv, hvd⟩ := hvs.get hd
      refine ⟨v, ?_, hvd⟩
      unfold L2.start
      rw [List.getElem?_append_left (by rw [List.length_map]; exact (List.getElem?_eq_some_iff.mp hv).1), List.getElem?_map, hv]
      rfl
    · cases e
  · rcases look i _ h with ⟨d', e, _⟩ | e <;> cases e
  · rcases look i _ h with ⟨d', e, _⟩ | e <;> cases e
  · unfold L2.start
    simp [hl]
  · rcases look i _ h with ⟨d', e, _⟩ | e <;> cases e
theorem fg_fn {P : Program} {w : World} {K : PySem.W.Frag} {mg : Str → Option Value} {base : Heap} {k n : Nat} {x qual : Str} {st : Stmt} {f : Addr} {fd : FuncData} {N ps : List Str} {sb : SD} (F : Fun K x qual st f fd) (S : FnScope N ps (defScope st)) (hn : ps.length = n)
    (body : ∀ (cdv : Value) (A : Around) (outer : List Env) (s : Shared) (H : Hp) (E : XK), A.guards = some [] → Room k (A.deeper (envOfC qual (defScope st) s.heap.objs.size f cdv)) → PSs (cxOf (L2.CX P w) P w K mg base N qual (defScope st) f cdv A outer s H E).nox (defBody st) (tS K DL.E0 sb)) :
    FnG P w K mg base (k + 1) f fd ps (spD K n (mkFn n N.length sb)) := by
  refine .of_body F S (fun h => by rw [hn]; exact h.1) (fun {cdv A up s H vs Q E} hgd hr h => ⟨_, (body cdv A up s H E hgd hr).nox, ?_⟩)
  obtain ⟨hvn, W, S0, ds, R, hvs, q⟩ := h
  obtain ⟨R1, no⟩ := start_rel (N := N) R hvs
  refine ⟨W, _, R1, ?_⟩
  have hdn : ds.length = n := by rw [← hvs.length]; exact hvn
  unfold mkFn at q
  rw [if_pos hdn, ← hdn] at q
  have ext0 : ∀ {W' H' σ' r'}, Ext W H (L2.start N vs) (ds.map Slot.val ++ List.replicate (N.length - ds.length) .non) W' H' σ' r' → Ext W H [] [] W' H' [] [] := fun {W' H' σ' r'} X =>
    ⟨X.f, fun a h => by
      rcases X.fn a h with h | h | h
      · exact .inl h
      · exact .inr (.inl h)
      · exact absurd h (no a), X.l, fun a o h hl _ => X.keep a o h hl (no a), X.dom, fun a h => .inl h⟩
  cases e : sb ⟨ds.map Slot.val ++ List.replicate (N.length - ds.length) .non, S0⟩ with
  | nx s1 =>
    rw [e] at q
    exact fun σ' W' H' R' X' => q .non W' H' R'.bare (ext0 X') .non
  | rt d s1 =>
    rw [e] at q
    exact fun σ' W' H' v R' X' hv => q v W' H' R'.bare (ext0 X') hv
  | bk s1 => rw [e] at q; exact q.elim
  | ct s1 => rw [e] at q; exact q.elim
  | ex c s1 => rw [e] at q; exact q.elim
  | bad => rw [e] at q; exact q.elim
theorem lk_fn {P : Program} {w : World} {K : PySem.W.Frag} {mg : Str → Option Value} {base : Heap} {k n : Nat} {x qual : Str} {st : Stmt} {f : Addr} {fd : FuncData} {N ps : List Str} {sb : SD} (F : Fun K x qual st f fd) (hm : mg x = some (.ref f)) (S : FnScope N ps (defScope st)) (hn : ps.length = n)
    (hb : Binds K fd ps [])
    (body : ∀ (cdv : Value) (A : Around) (outer : List Env) (s : Shared) (H : Hp) (E : XK), A.guards = some [] → Room k (A.deeper (envOfC qual (defScope st) s.heap.objs.size f cdv)) → PSs (cxOf (L2.CX P w) P w K mg base N qual (defScope st) f cdv A outer s H E).nox (defBody st) (tS K DL.E0 sb)) :
    Lk P w K mg base (k + 1) x n (mkFn n N.length sb) := ⟨f, fd, ps, fg_fn F S hn body, hm, F.kp, hb⟩
end
end DL
/-! DJ: chains, repr, the law's end. -/
namespace DL
open PySem PySem.Spec PyProof.Rows L2
section
variable {X : Cx} {E : EX} {pos apos p : Pos} {e a b c o : Expr} {fa fb fc fo fv : ED} {x : Str}
theorem chain_read {K : PySem.W.Frag} {op op' : PyData → PyData → Option PyData} {σ : L2.St} {H : Hp} {Q : VK} (h : tD K E (eChain op op' fa fb fc) σ H Q) : tChain (rD2 K op) (rD2 K op') (tD K E fa) (tD K E fb) (tD K E fc) σ H Q := by
  obtain ⟨W, st, R, h⟩ := h
  refine tD_of R (h.then.imp fun x s1 W1 H1 _ R1 X1 h1 v hv => tD_of R1 (h1.then.imp fun y s2 W2 H2 _ R2 X2 h2 u hu => ?_))
  cases e1 : op x y with
  | none => rw [e1] at h2; exact h2.elim
  | some d =>
    rw [e1] at h2
    have hv2 := hv.lat (R1.lat X2)
    refine ⟨W2, x, y, d, hv2, hu, e1, R2.fok, fun z W3 H3 g hz => ?_⟩
    have R3 := g.rel R2
    have h3 := Res.base g.ext h2
    cases d with
    | bool k =>
      cases hz
      refine ⟨k, rfl, ?_⟩
      cases k with
      | false =>
        rw [if_neg Bool.false_ne_true]
        exact h2 W3 H3 R3 g.ext _ (.bl _)
      | true =>
        rw [if_pos rfl]
        refine tD_of R3 (Res.then h3 |>.imp fun z s4 W4 H4 _ R4 X4 h4 w hw => ?_)
        cases e2 : op' y z with
        | none => rw [e2] at h4; exact h4.elim
        | some d2 =>
          rw [e2] at h4
          refine ⟨W4, y, z, d2, (hu.lat g.lat).lat (R3.lat X4), hw, e2, R4.fok, fun q W5 H5 g5 hq => ?_⟩
          cases d2 with
          | bool k => exact h4 W5 H5 (g5.rel R4) g5.ext q hq
          | _ => exact h4.elim
    | _ => exact h2.elim
theorem de_chain {q q' : CmpOp} {op op' : PyData → PyData → Option PyData} (ho : OpR X (compareOp q) (rD2 X.K op)) (ho' : OpR X (compareOp q') (rD2 X.K op')) (ha : PE X a (tD X.K E fa)) (hb : PE X b (tD X.K E fb)) (hc : PE X c (tD X.K E fc))
    (hm : lastMarks [q, q'] [b, c] = false := by with_unfolding_all rfl) : PE X (.Compare a [q, q'] [b, c] pos) (tD X.K E (eChain op op' fa fb fc)) := pe_imp (pe_chain ho ho' ha hb hc hm) fun _ _ _ h => chain_read h
theorem dt_chain {q q' : CmpOp} {op op' : PyData → PyData → Option PyData} (ho : OpR X (compareOp q) (rD2 X.K op)) (ho' : OpR X (compareOp q') (rD2 X.K op')) (ha : PE X a (tD X.K E fa)) (hb : PE X b (tD X.K E fb)) (hc : PE X c (tD X.K E fc))
    (hm : lastMarks [q, q'] [b, c] = false := by with_unfolding_all rfl) : PT X (.Compare a [q, q'] [b, c] pos) (tT X.K E (asB (eChain op op' fa fb fc))) := pt_imp (pt_chain ho ho' ha hb hc hm) fun _ _ _ h => chain_read (asB_read h)

/-! ### repr -/
/-- the built-in, where the class's own __repr__ does the work -/
theorem repr_slot {prog : Program} {w : World} {A : Around} {ex : Value → Shared → Prop} {s : Shared} {v : Value} {T id : String} {t : Str} {Q : Value → Shared → Prop} (ty : s.TypeIs v T) (sl : SlotG T "__repr__" id) (room : A.units + 1 < cLine)
    (h : wpAny (model prog w) A.in1 (callSpecialIfBound? v (Str.ofString "__repr__")) (fun r s' => ∃ u, r = some (.str t u) ∧ Q (.str t u) s') ex s) : wpAny (model prog w) A (call (.builtin "repr") [v]) Q ex s := by
  refine Calls.call_function_entry F.kind_repr F.plain_repr F.entry_repr (F.args_repr1 _) ?_
  unfold Builtin.«repr»
  refine wpAny_bind (m := oneArg "repr" _) (wpAny_pure (wpAny_bind (wpAny_cRoomFor room (wpAny_bind (wpAny_specialOf (name := Str.ofString "__repr__") ty sl.lookup ?_)))))
  refine wpAny_bind (m := callSpecialIfBound? v _) (wpAny_mono h (fun r s' z => ?_) fun _ _ z => z)
  obtain ⟨u, rfl, q⟩ := z
  exact wpAny_bind (wpAny_isInstance (T := "str") (b := true) rfl isSubtype_str_str (wpAny_pure ⟨_, rfl, q⟩))
theorem repr_any {prog : Program} {w : World} {A : Around} {ex : Value → Shared → Prop} {s : Shared} {v : Value} {d : PyData} {as : List Addr} {Q : Value → Shared → Prop} (r : Reads s.heap v d as) (lay : d.canLay0 = true) (sh : d.showable = true) (hz : d.shown.length ≤ sizeLine) (gd : A.guards = some [])
    (hu : A.units + d.depth + 1 < cLine) (hQ : ∀ h' u tk, (∀ b o, s.heap.get? b = some o → h'.get? b = some o) → Q (.str d.shown u) { s with heap := h', toks := tk }) : wpAny (model prog w) A (call (.builtin "repr") [v]) Q ex s := by
  cases r with
  | none => simp only [PyData.shown] at hQ; exact P.repr_of_none (hQ s.heap _ _ fun _ _ z => z)
  | bool k => simp only [PyData.shown] at hQ; exact P.repr_of_bool (hQ s.heap _ _ fun _ _ z => z)
  | int i t => simp only [PyData.shown] at hQ; exact P.repr_of_int (by simpa [PyData.showable] using sh) (hQ s.heap _ _ fun _ _ z => z)
  | str y t => simp only [PyData.shown] at hQ hz; exact P.repr_of_str (hQ s.heap _ _ fun _ _ z => z) hz
  | @list l ob vs n0 ys sl h1 h2 h3 h4 =>
    simp only [PyData.shown] at hQ hz
    have nd := PyData.hasDict_of_canLay _ lay
    obtain ⟨bs, deep, texts⟩ := ReprAllK.of_readsAll (prog := prog) (w := w) h4 (by simpa [PyData.showable] using sh) (fun q => absurd (show PyData.hasDict (.list ys) = true by simpa [PyData.hasDict] using q) (by rw [nd]; decide)) (fun t ht => Nat.le_trans (listText_mem_le ht) hz)
    have self : Reads s.heap (.ref l) (.list ys) _ := .list h1 h2 h3 h4
    have out : l ∉ bs := not_mem_of_deeper self (by simp only [PyData.depth]; omega) deep
    simp only [PyData.depth] at hu
    have ty : s.TypeIs (.ref l) "list" := ⟨_, h1, h2⟩
    obtain ⟨us⟩ := vs
    cases us with
    | nil =>
      have e0 : PyData.shownAll ys = [] := List.eq_nil_of_length_eq_zero texts.length_eq
      rw [e0, listText_nil] at hQ
      exact repr_slot (t := "[]") ty F.slot_list_repr.toG (by omega) (wpAny_callSpecialIfBound?_slot (name := Str.ofString "__repr__") ty F.slot_list_repr (call_list_repr_empty ty h1 h3 ⟨_, rfl, hQ s.heap _ _ fun _ _ z => z⟩))
    | cons u us =>
      exact repr_slot ty F.slot_list_repr.toG (by omega) (wpAny_callSpecialIfBound?_slot (name := Str.ofString "__repr__") ty F.slot_list_repr
        (call_list_reprK h1 h2 h3 out (by simpa using texts.length_eq) (fun i y q => texts.item i y (by simpa using q)) gd (fun b _ => Clear.nil b) (by show A.units + 1 + _ < _; omega) (fun _ _ z => z) (fun h' u tk keep => ⟨_, rfl, hQ h' u tk keep⟩) hz))
  | @tuple l ob vs n0 ys sl h1 h2 h3 h4 =>
    simp only [PyData.shown] at hQ hz
    have nd := PyData.hasDict_of_canLay _ lay
    obtain ⟨bs, deep, texts⟩ := ReprAllK.of_readsAll (prog := prog) (w := w) h4 (by simpa [PyData.showable] using sh) (fun q => absurd (show PyData.hasDict (.tuple ys) = true by simpa [PyData.hasDict] using q) (by rw [nd]; decide)) (fun t ht => Nat.le_trans (tupleText_mem_le ht) hz)
    have self : Reads s.heap (.ref l) (.tuple ys) _ := .tuple h1 h2 h3 h4
    have out : l ∉ bs := not_mem_of_deeper self (by simp only [PyData.depth]; omega) deep
    simp only [PyData.depth] at hu
    have ty : s.TypeIs (.ref l) "tuple" := ⟨_, h1, h2⟩
    exact repr_slot ty F.slot_tuple_repr (by omega) (wpAny_callSpecialIfBound?_slotG (name := Str.ofString "__repr__") ty F.slot_tuple_repr
      (call_tuple_reprK h1 h2 h3 out texts gd (fun b _ => Clear.nil b) (by show A.units + 1 + _ < _; omega) (fun _ _ z => z) (fun h' u tk keep => ⟨_, rfl, hQ h' u tk keep⟩) hz))
  | dict => simp [PyData.canLay0] at lay
def opRepr : List PyData → Option PyData
  | [d] => if d.canLay0 && d.showable && decide (d.depth ≤ 60) && decide (d.shown.length ≤ 16777216) then some (.str d.shown) else none
  | _ => none
theorem dc_repr (hgd : X.A.guards = some []) (hu : X.A.units + 66 < cLine) : CallR X (.builtin "repr") (rDL X.K opRepr) := by
  intro pins s σ H xs us Q I r h
  obtain ⟨W, ds, d, hds, e, fok, q⟩ := h
  unfold opRepr at e
  split at e
  · rename_i d0
    obtain ⟨v, rfl, hv⟩ := isds1 hds
    split at e
    · rename_i ok
      cases e
      simp only [Bool.and_eq_true, decide_eq_true_eq] at ok
      obtain ⟨⟨⟨ok1, ok2⟩, ok3⟩, ok4⟩ := ok
      obtain ⟨u, rfl, ru⟩ := vals1 r
      obtain ⟨as, rd⟩ := Dp.reads I d0 v u (IsD.dp d0 ok1 hv) ru
      exact repr_any rd ok1 ok2 (by rw [sizeLine_eq]; exact ok4) hgd (by omega) fun h' t tk keep => ⟨.str _, H, I.kept keep, ⟨t, rfl⟩, q _ W H fok.refl (.str _)⟩
    · cases e
  · cases e
end
end DL
/-! DK: from the law's mirror to the law. -/
namespace DL
open PySem PySem.Spec PyProof.Rows L2
section
variable {P : Program} {w : World} {K : PySem.W.Frag} {mg mb : Str → Option Value} {k : Nat} {fa a : Addr} {fd : FuncData} {x : Str} {m : FD} {s : Shared} {vs : List Value} {ns : List Int}
/-- what is tracked of the heap behind the top: the script, unless it is the module's -/
def Hp0 (K : PySem.W.Frag) (a : Addr) (vs : List Value) (ns : List Int) : Hp := fun b => if b = a ∧ K.lookup a = none then some (.frz { cls := .type "list", data := .seq vs.toArray } (.lst (ns.map V.int))) else none
theorem Hp0.at {b : Addr} {o : HO} (h : Hp0 K a vs ns b = some o) : b = a ∧ K.lookup a = none ∧ o = .frz { cls := .type "list", data := .seq vs.toArray } (.lst (ns.map V.int)) := by
  unfold Hp0 at h
  split at h
  · rename_i z
    cases h
    exact ⟨z.1, z.2, rfl⟩
  · cases h
theorem entry (KX : K.In s.heap) (hns : s.heap.Ns mainGlobals mg) (hb : s.heap.Ns builtinsNs mb) (hbb : ∀ y : Str, y ≠ "__name__" → mb y = bootBuiltins y) (lim : s.heap.NoLimit) (hg : s.gens = #[])
    (ha : s.heap.get? a = some { cls := .type "list", data := .seq vs.toArray }) (hi : IntsAre vs ns) (hl : ns.length ≤ sizeLine) (hr : Room k callerA)
    (F : ∀ base : Heap, K.In base → base.Ns mainGlobals mg → FnG P w K mg base k fa fd [x] (spD K 1 m)) (bind : ∀ (s : Shared) (u : Value), BindsTo s fd ⟨[u], []⟩ [(x, u)]) (good : ∃ S, m [scr ns] [] = .ok (.bool true) S) :
    codeAny (model P w) callerA (.call (.ref fa) ⟨[.ref a], []⟩) (fun r s' => r = .ok (.ret (.bool true)) ∧ OldK s.heap s'.heap ∧ s'.os = s.os ∧ AllBare s'.gens) s := by
  have whole := vals_ints hi
  have count := hi.length
  generalize hH : Hp0 K a vs ns = H
  have only : ∀ {b : Addr} {o : HO}, H b = some o → b = a ∧ K.lookup a = none ∧ o = .frz { cls := .type "list", data := .seq vs.toArray } (.lst (ns.map V.int)) := fun {b o} z => Hp0.at (by rw [hH]; exact z)
  have script : SqS K H a (ns.map V.int) := by
    cases hk : K.lookup a with
    | none => exact .inl ⟨_, by rw [← hH]; exact if_pos ⟨rfl, hk⟩⟩
    | some o =>
      have z := KX a o hk
      rw [ha] at z
      cases z
      exact .inr ⟨_, vs.toArray, _, hk, rfl, rfl, rfl, by rw [List.size_toArray, count]; exact hl, by simpa using whole⟩
  have ok : HOk P w H s.heap := fun b o z => by
    obtain ⟨rfl, _, rfl⟩ := only z
    exact ⟨ha, by rw [List.length_map]; exact hl, vs, _, whole, ha⟩
  have free : ∀ {b : Addr} {o : Obj}, s.heap.get? b = some o → (H b ≠ none → o = { cls := .type "list", data := .seq vs.toArray }) := fun {b o} e z => by
    cases q : H b with
    | none => exact absurd q z
    | some u =>
      obtain ⟨rfl, _⟩ := only q
      rw [ha] at e
      exact (Option.some.inj e).symm
  have keepNs : ∀ {b : Addr} {f : Str → Option Value}, s.heap.Ns b f → (hidT s.heap H).Ns b f := fun {b f} ⟨o, es, ep, e, d, z⟩ => by
    refine ⟨o, es, ep, hidT_get e ?_, d, z⟩
    cases q : H b with
    | none => rfl
    | some u =>
      have eo := free e (by rw [q]; simp)
      subst eo
      cases show Data.seq vs.toArray _ = Data.dict es ep from d
  have inK : K.In (hidT s.heap H) := fun b o e => hidT_get (KX b o e) (by
    cases q : H b with
    | none => rfl
    | some u =>
      obtain ⟨rfl, z, _⟩ := only q
      rw [z] at e
      cases e)
  obtain ⟨mc, c1, c2⟩ := lim
  have env0 : Env0 P w K mg (hidT s.heap H) callerA [] s H :=
    ⟨rfl, ⟨inK, keepNs hns, ⟨mb, keepNs hb, hbb⟩, mc, keepNs c1, c2⟩, fun _ _ e => of_hidT e, Nat.le_of_eq (hidT_size _ _), trivial, (fun b z => by cases z), ok, .of_eq hg⟩
  have rel0 : Rel K ⟨fun _ => False, []⟩ H [] ⟨[], []⟩ := ⟨fun i d h => by simp at h, fun i l h => by simp at h, fun i j l l' b h => by simp at h, rfl, rfl, List.nodup_nil, fun n b o h => by simp at h, fun _ h => h.elim, fun b h => by simp at h⟩
  obtain ⟨S, gm⟩ := good
  have hyp : spD K 1 m [.ref a] H (fun v _ => v = .bl true) fun _ _ _ => False := ⟨rfl, _, [], [scr ns], rel0, .cons (.scr script hl) .nil, by
    rw [gm]
    intro v W' H' _ _ hv
    cases hv
    rfl⟩
  refine codeAny_mono ((F _ inK (keepNs hns)).go (us := [.ref a]) (vs := [.ref a]) rfl hr env0 (bind s (.ref a)) (.cons rfl .nil) hyp) fun r s' z => ?_
  match r, z with
  | .error e, z =>
    obtain ⟨_, _, _, _, _, _, _, _, _, _, _, _, f⟩ := z
    exact f.elim
  | .ok (.ret u), ⟨v, H', os, bare, un, ok', ru, q⟩ =>
    have e : v = V.bl true := q
    subst e
    cases ru
    refine ⟨rfl, OldK.of_keep fun b o e => ?_, os, bare⟩
    cases z : H b with
    | none => exact un.keep b o e z (fun f => by cases f) fun f => by cases f
    | some u =>
      obtain ⟨rfl, _, rfl⟩ := only z
      have there := (ok' b _ (un.frzs b _ _ z)).1
      rw [ha] at e
      cases e
      exact there
end
theorem law_end {l : PySem.W.OpenLaw} {n k : Nat} {q : Program} {loose : List Str} {XP : (Str → Option Value) → Heap → Prop} {YP : World → Heap → Prop} {d : DefRec} {K : Params → PySem.W.Frag} {x : Str} {m : FD}
    (hn : l.most = some n) (hn2 : n ≤ sizeLine) (hdf : d.params.defaults = []) (hr : Room k callerA) (hY : ∀ (w : World) (h : Heap), YP w h → (K w.params).In h)
    (F : ∀ (w : World) (mg : Str → Option Value) (fa : Addr) (h : Heap), (K w.params).In h → h.Ns mainGlobals mg → mg d.name = some (.ref fa) →
      ∃ fd : FuncData, (∀ (s : Shared) (u : Value), BindsTo s fd ⟨[u], []⟩ [(x, u)]) ∧ ∀ base : Heap, (K w.params).In base → base.Ns mainGlobals mg → FnG l.prog w (K w.params) mg base k fa fd [x] (spD (K w.params) 1 m))
    (good : ∀ ns : List Int, ns.length ≤ n → ∃ S, m [scr ns] [] = .ok (.bool true) S) : PySem.W.WalkO q loose XP YP l.row.toRowW d [] (fun f vs => PySem.call f vs) := by
  apply Att.attach_call hn hdf
  intro w s₀ s₁ mg mb fa o pm cd doc a vs ns G Y _ _ _ hmg hobj hints hlen hg
  obtain ⟨fd, bind, all⟩ := F w mg fa _ (hY w _ Y) G.T.g hmg
  exact entry (hY w _ Y) G.T.g G.T.b G.T.builtins G.T.nolimit hg hobj hints (Nat.le_trans hlen hn2) hr all bind (good ns hlen)
theorem uR {k n : Nat} {A : Around} (r : Room k A) (h : n ≤ 200 := by decide) : A.units + n < cLine := by have := r.un; omega
theorem u0 {k : Nat} {A : Around} (r : Room k A) : A.units < cLine := by have := r.un; omega
/-! ### names that the language brings -/
theorem bt_len : bootBuiltins "len" = some (.builtin "len") := by decide +kernel
theorem bt_all : bootBuiltins "all" = some (.builtin "all") := by decide +kernel
theorem bt_any : bootBuiltins "any" = some (.builtin "any") := by decide +kernel
theorem bt_max : bootBuiltins "max" = some (.builtin "max") := by decide +kernel
theorem bt_min : bootBuiltins "min" = some (.builtin "min") := by decide +kernel
theorem bt_repr : bootBuiltins "repr" = some (.builtin "repr") := by decide +kernel
theorem bt_sorted : bootBuiltins "sorted" = some (.builtin "sorted") := by decide +kernel
theorem bt_isinstance : bootBuiltins "isinstance" = some (.builtin "isinstance") := by decide +kernel
theorem bt_sum : bootBuiltins "sum" = some (.builtin "sum") := by decide +kernel
theorem bt_int : bootBuiltins "int" = some (.type "int") := by decide +kernel
theorem bt_bool : bootBuiltins "bool" = some (.type "bool") := by decide +kernel
theorem bt_str : bootBuiltins "str" = some (.type "str") := by decide +kernel
theorem bt_tuple : bootBuiltins "tuple" = some (.type "tuple") := by decide +kernel
theorem bt_list : bootBuiltins "list" = some (.type "list") := by decide +kernel
end DL
/-! DM: what a mirror computes, backwards. -/
namespace DL
open PySem PySem.Spec PyProof.Rows L2
def Rs.wp {α : Type} (x : Rs α) (C : α → Sta → Prop) : Prop := match x with
  | .ok a s => C a s
  | _ => False
def Ou.wp (x : Ou) (N : Sta → Prop) (R : PyData → Sta → Prop) (B T : Sta → Prop) : Prop := match x with
  | .nx s => N s
  | .rt d s => R d s
  | .bk s => B s
  | .ct s => T s
  | _ => False
def Rf.wp (x : Rf) (C : PyData → List So → Prop) : Prop := match x with
  | .ok d S => C d S
  | _ => False
section
variable {α β : Type} {N B T : Sta → Prop} {R : PyData → Sta → Prop}
@[simp] theorem wp_ok {a : α} {s : Sta} {C : α → Sta → Prop} : (Rs.ok a s).wp C ↔ C a s := Iff.rfl
@[simp] theorem wp_bad {C : α → Sta → Prop} : (Rs.bad : Rs α).wp C ↔ False := Iff.rfl
@[simp] theorem wp_ex {c : Nat} {s : Sta} {C : α → Sta → Prop} : (Rs.ex c s : Rs α).wp C ↔ False := Iff.rfl
@[simp] theorem wp_bind {x : Rs α} {g : α → Sta → Rs β} {C : β → Sta → Prop} : (x.bind g).wp C ↔ x.wp fun a s => (g a s).wp C := by cases x <;> rfl
@[simp] theorem wpo_nx {s : Sta} : (Ou.nx s).wp N R B T ↔ N s := Iff.rfl
@[simp] theorem wpo_rt {d : PyData} {s : Sta} : (Ou.rt d s).wp N R B T ↔ R d s := Iff.rfl
@[simp] theorem wpo_bk {s : Sta} : (Ou.bk s).wp N R B T ↔ B s := Iff.rfl
@[simp] theorem wpo_ct {s : Sta} : (Ou.ct s).wp N R B T ↔ T s := Iff.rfl
@[simp] theorem wpo_bad : (Ou.bad).wp N R B T ↔ False := Iff.rfl
@[simp] theorem wp_run {x : Rs α} {g : α → Sta → Ou} : (x.run g).wp N R B T ↔ x.wp fun a s => (g a s).wp N R B T := by cases x <;> rfl
@[simp] theorem wpf_ok {d : PyData} {S : List So} {C : PyData → List So → Prop} : (Rf.ok d S).wp C ↔ C d S := Iff.rfl
@[simp] theorem wpf_bad {C : PyData → List So → Prop} : (Rf.bad).wp C ↔ False := Iff.rfl
theorem wp_mono {x : Rs α} {C C' : α → Sta → Prop} (h : x.wp C) (i : ∀ a s, C a s → C' a s) : x.wp C' := by cases x <;> first | exact i _ _ h | exact h
theorem wpf_mono {x : Rf} {C C' : PyData → List So → Prop} (h : x.wp C) (i : ∀ a s, C a s → C' a s) : x.wp C' := by cases x <;> first | exact i _ _ h | exact h
theorem wpo_mono {x : Ou} {N' B' T' : Sta → Prop} {R' : PyData → Sta → Prop} (h : x.wp N R B T) (h1 : ∀ s, N s → N' s) (h2 : ∀ d s, R d s → R' d s) (h3 : ∀ s, B s → B' s) (h4 : ∀ s, T s → T' s) : x.wp N' R' B' T' := by
  cases x <;> first | exact h1 _ h | exact h2 _ _ h | exact h3 _ h | exact h4 _ h | exact h
theorem wp_eq {x : Rs α} {a : α} {s : Sta} : (x.wp fun b t => b = a ∧ t = s) ↔ x = .ok a s := by
  cases x with
  | ok b t => simp
  | _ => simp
theorem wpf_eq {x : Rf} {a : PyData} {s : List So} : (x.wp fun b t => b = a ∧ t = s) ↔ x = .ok a s := by
  cases x with
  | ok b t => simp
  | ex => simp [Rf.wp]
  | bad => simp
/-! ### the words -/
variable {C : PyData → Sta → Prop} {D : List PyData → Sta → Prop} {Z : Bool → Sta → Prop} {st : Sta} {fa fb fc : ED} {fl : EL} {c c' : ET} {sa sb : SD} {i : Nat} {op op' : PyData → PyData → Option PyData}
@[simp] theorem wp_C {d : PyData} : (eC d st).wp C ↔ C d st := Iff.rfl
@[simp] theorem eVar_at : eVar i st = match st.r[i]? with
    | some (.val d) => .ok d st
    | some (.own l) => .ok (.list l) { st with r := st.r.set i (.val (.list l)) }
    | _ => .bad := by unfold eVar; rfl
@[simp] theorem wp_op1 {op : PyData → Option PyData} : (eOp1 op fa st).wp C ↔ (fa st).wp fun x s => ∃ d, op x = some d ∧ C d s := by
  unfold eOp1
  rw [wp_bind]
  refine ⟨fun h => wp_mono h fun x s z => ?_, fun h => wp_mono h fun x s ⟨d, e, z⟩ => by rw [e]; exact z⟩
  cases e : op x with
  | none => rw [e] at z; exact z.elim
  | some d => rw [e] at z; exact ⟨d, rfl, z⟩
@[simp] theorem wp_op2 : (eOp2 op fa fb st).wp C ↔ (fa st).wp fun x s => (fb s).wp fun y s' => ∃ d, op x y = some d ∧ C d s' := by
  unfold eOp2
  rw [wp_bind]
  refine ⟨fun h => wp_mono h fun x s z => wp_mono (wp_bind.mp z) fun y s' z => ?_, fun h => wp_mono h fun x s z => wp_bind.mpr (wp_mono z fun y s' ⟨d, e, z⟩ => by rw [e]; exact z)⟩
  cases e : op x y with
  | none => rw [e] at z; exact z.elim
  | some d => rw [e] at z; exact ⟨d, rfl, z⟩
@[simp] theorem wp_nil : (eNil st).wp D ↔ D [] st := Iff.rfl
@[simp] theorem wp_cons : (eCons fa fl st).wp D ↔ (fa st).wp fun x s => (fl s).wp fun xs s' => D (x :: xs) s' := by unfold eCons; simp
@[simp] theorem wp_star : (eStar fa fl st).wp D ↔ (fa st).wp fun x s => ∃ ys, itemsOf x = some ys ∧ (fl s).wp fun xs s' => D (ys ++ xs) s' := by
  unfold eStar
  rw [wp_bind]
  refine ⟨fun h => wp_mono h fun x s z => ?_, fun h => wp_mono h fun x s ⟨ys, e, z⟩ => by rw [e]; simpa using z⟩
  cases e : itemsOf x with
  | none => rw [e] at z; exact z.elim
  | some ys => rw [e] at z; exact ⟨_, rfl, by simpa using z⟩
@[simp] theorem wp_opL {op : List PyData → Option PyData} : (eOpL op fl st).wp C ↔ (fl st).wp fun x s => ∃ d, op x = some d ∧ C d s := by
  unfold eOpL
  rw [wp_bind]
  refine ⟨fun h => wp_mono h fun x s z => ?_, fun h => wp_mono h fun x s ⟨d, e, z⟩ => by rw [e]; exact z⟩
  cases e : op x with
  | none => rw [e] at z; exact z.elim
  | some d => rw [e] at z; exact ⟨d, rfl, z⟩
@[simp] theorem wp_nopL {op : List PyData → Option (List PyData)} : (nOpL op fl st).wp D ↔ (fl st).wp fun x s => ∃ d, op x = some d ∧ D d s := by
  unfold nOpL
  rw [wp_bind]
  refine ⟨fun h => wp_mono h fun x s z => ?_, fun h => wp_mono h fun x s ⟨d, e, z⟩ => by rw [e]; exact z⟩
  cases e : op x with
  | none => rw [e] at z; exact z.elim
  | some d => rw [e] at z; exact ⟨d, rfl, z⟩
@[simp] theorem wp_lst : (eLst fl st).wp C ↔ (fl st).wp fun l s => C (.list l) s := by unfold eLst; simp
@[simp] theorem wp_new : (eNew fl st).wp C ↔ (fl st).wp fun l s => C (rf s.s.length) { s with s := s.s ++ [.lst l] } := by unfold eNew; simp
@[simp] theorem wp_tup : (eTup fl st).wp C ↔ (fl st).wp fun l s => l.length ≤ 16777216 ∧ C (.tuple l) s := by
  unfold eTup
  rw [wp_bind]
  refine ⟨fun h => wp_mono h fun x s z => ?_, fun h => wp_mono h fun x s ⟨e, z⟩ => by rw [if_pos e]; exact z⟩
  split at z
  · exact ⟨by assumption, z⟩
  · exact z.elim
@[simp] theorem wp_nlst : (nLst fl st).wp D ↔ (fl st).wp fun l s => l.length ≤ 16777216 ∧ D l s := by
  unfold nLst
  rw [wp_bind]
  refine ⟨fun h => wp_mono h fun x s z => ?_, fun h => wp_mono h fun x s ⟨e, z⟩ => by rw [if_pos e]; exact z⟩
  split at z
  · exact ⟨by assumption, z⟩
  · exact z.elim
/-- a bool, if it is one -/
def onB (x : PyData) (P : Bool → Prop) : Prop := match x with
  | .bool k => P k
  | _ => False
@[simp] theorem onB_bool {k : Bool} {P : Bool → Prop} : onB (.bool k) P ↔ P k := Iff.rfl
@[simp] theorem wp_asB : (asB fa st).wp Z ↔ (fa st).wp fun x s => onB x fun k => Z k s := by
  unfold asB
  rw [wp_bind]
  refine ⟨fun h => wp_mono h fun x s z => ?_, fun h => wp_mono h fun x s z => ?_⟩ <;> cases x <;> exact z
@[simp] theorem wp_eNot : (eNot fa st).wp C ↔ (fa st).wp fun x s => onB x fun k => C (.bool (!k)) s := by
  unfold eNot
  rw [wp_bind]
  refine ⟨fun h => wp_mono h fun x s z => ?_, fun h => wp_mono h fun x s z => ?_⟩ <;> cases x <;> exact z
@[simp] theorem wp_eAnd : (eAnd fa fb st).wp C ↔ (fa st).wp fun x s => onB x fun k => (k = true → (fb s).wp C) ∧ (k = false → C (.bool false) s) := by
  unfold eAnd
  rw [wp_bind]
  refine ⟨fun h => wp_mono h fun x s z => ?_, fun h => wp_mono h fun x s z => ?_⟩
  · cases x with
    | bool k => cases k with
      | true => exact ⟨fun _ => z, fun q => by cases q⟩
      | false => exact ⟨(fun q => by cases q), fun _ => z⟩
    | _ => exact z.elim
  · cases x with
    | bool k => cases k with
      | true => exact z.1 rfl
      | false => exact z.2 rfl
    | _ => exact z.elim
@[simp] theorem wp_eOr : (eOr fa fb st).wp C ↔ (fa st).wp fun x s => onB x fun k => (k = true → C (.bool true) s) ∧ (k = false → (fb s).wp C) := by
  unfold eOr
  rw [wp_bind]
  refine ⟨fun h => wp_mono h fun x s z => ?_, fun h => wp_mono h fun x s z => ?_⟩
  · cases x with
    | bool k => cases k with
      | true => exact ⟨fun _ => z, fun q => by cases q⟩
      | false => exact ⟨(fun q => by cases q), fun _ => z⟩
    | _ => exact z.elim
  · cases x with
    | bool k => cases k with
      | true => exact z.1 rfl
      | false => exact z.2 rfl
    | _ => exact z.elim
theorem ite_wp {k : Bool} {p q : Prop} : (if k = true then p else q) ↔ (k = true → p) ∧ (k = false → q) := by cases k <;> simp
@[simp] theorem wp_eIf : (eIf c fa fb st).wp C ↔ (c st).wp fun k s => (k = true → (fa s).wp C) ∧ (k = false → (fb s).wp C) := by
  unfold eIf
  rw [wp_bind]
  refine ⟨fun h => wp_mono h fun k s z => ?_, fun h => wp_mono h fun k s ⟨z1, z2⟩ => ?_⟩ <;> cases k <;> simp_all
@[simp] theorem wp_bAnd : (bAnd c c' st).wp Z ↔ (c st).wp fun k s => (k = true → (c' s).wp Z) ∧ (k = false → Z false s) := by
  unfold bAnd
  rw [wp_bind]
  refine ⟨fun h => wp_mono h fun k s z => ?_, fun h => wp_mono h fun k s ⟨z1, z2⟩ => ?_⟩ <;> cases k <;> simp_all
@[simp] theorem wp_bOr : (bOr c c' st).wp Z ↔ (c st).wp fun k s => (k = true → Z true s) ∧ (k = false → (c' s).wp Z) := by
  unfold bOr
  rw [wp_bind]
  refine ⟨fun h => wp_mono h fun k s z => ?_, fun h => wp_mono h fun k s ⟨z1, z2⟩ => ?_⟩ <;> cases k <;> simp_all
@[simp] theorem wp_bNot : (bNot c st).wp Z ↔ (c st).wp fun k s => Z (!k) s := by unfold bNot; simp
@[simp] theorem wp_chain : (eChain op op' fa fb fc st).wp C ↔ (fa st).wp fun x s => (fb s).wp fun y s' => ∃ d, op x y = some d ∧ onB d fun k => (k = true → (fc s').wp fun z s2 => ∃ d', op' y z = some d' ∧ onB d' fun k' => C (.bool k') s2) ∧ (k = false → C (.bool false) s') := by
  unfold eChain
  rw [wp_bind]
  refine ⟨fun h => wp_mono h fun x s z => wp_mono (wp_bind.mp z) fun y s' z => ?_, fun h => wp_mono h fun x s z => wp_bind.mpr (wp_mono z fun y s' ⟨d, e, q⟩ => ?_)⟩
  · split at z
    · rename_i e
      refine ⟨_, e, fun _ => wp_mono (wp_bind.mp z) fun w s2 z => ?_, fun q => by cases q⟩
      split at z
      · rename_i k' e'
        exact ⟨.bool k', e', z⟩
      · exact z.elim
    · rename_i e
      exact ⟨.bool false, e, (fun q => by cases q), fun _ => z⟩
    · exact z.elim
  · cases d with
    | bool k =>
      obtain ⟨z1, z2⟩ := q
      rw [e]
      cases k with
      | true =>
        refine wp_bind.mpr (wp_mono (z1 rfl) fun w s2 ⟨d', e', z⟩ => ?_)
        cases d' with
        | bool k' => rw [e']; exact z
        | _ => exact z.elim
      | false => exact z2 rfl
    | _ => exact q.elim
@[simp] theorem wp_call {m : FD} : (eCall m fl st).wp C ↔ (fl st).wp fun ds s => (m ds s.s).wp fun d S => C d { s with s := S } := by
  unfold eCall
  rw [wp_bind]
  refine ⟨fun h => wp_mono h fun x s z => ?_, fun h => wp_mono h fun x s z => ?_⟩
  · cases e : m x s.s <;> rw [e] at z <;> exact z
  · cases e : m x s.s <;> rw [e] at z <;> exact z
theorem wp_fn {n M : Nat} {b : SD} {ds : List PyData} {S : List So} {E : PyData → List So → Prop} (h : ds.length = n) : (mkFn n M b ds S).wp E ↔ (b ⟨ds.map Slot.val ++ List.replicate (M - n) .non, S⟩).wp (fun s => E .none s.s) (fun d s => E d s.s) (fun _ => False) fun _ => False := by
  unfold mkFn
  rw [if_pos h]
  cases b _ <;> rfl
@[simp] theorem wp_seq : (sSeq sa sb st).wp N R B T ↔ (sa st).wp (fun s => (sb s).wp N R B T) R B T := by unfold sSeq; cases sa st <;> rfl
@[simp] theorem wp_nx : (sNx st).wp N R B T ↔ N st := Iff.rfl
@[simp] theorem wp_brk : (sBrk st).wp N R B T ↔ B st := Iff.rfl
@[simp] theorem wp_cnt : (sCnt st).wp N R B T ↔ T st := Iff.rfl
@[simp] theorem wp_sbad : (sBad st).wp N R B T ↔ False := Iff.rfl
@[simp] theorem wp_ret : (sRet fa st).wp N R B T ↔ (fa st).wp R := by unfold sRet; simp
@[simp] theorem wp_retN : (sRetN st).wp N R B T ↔ R .none st := Iff.rfl
@[simp] theorem wp_if : (sIf c sa sb st).wp N R B T ↔ (c st).wp fun k s => (k = true → (sa s).wp N R B T) ∧ (k = false → (sb s).wp N R B T) := by
  unfold sIf
  rw [wp_run]
  refine ⟨fun h => wp_mono h fun k s z => ?_, fun h => wp_mono h fun k s ⟨z1, z2⟩ => ?_⟩ <;> cases k <;> simp_all
@[simp] theorem wp_drop : (sDrop fa st).wp N R B T ↔ (fa st).wp fun _ s => N s := by unfold sDrop; simp
@[simp] theorem wp_asg {g : TGT} : (sAsg g fa st).wp N R B T ↔ (fa st).wp fun d s => ∃ s', g d s = some s' ∧ N s' := by
  unfold sAsg
  rw [wp_run]
  refine ⟨fun h => wp_mono h fun d s z => ?_, fun h => wp_mono h fun d s ⟨s', e, z⟩ => by rw [e]; exact z⟩
  cases e : g d s with
  | none => rw [e] at z; exact z.elim
  | some s' => rw [e] at z; exact ⟨_, rfl, z⟩
@[simp] theorem wp_own : (sOwn i fl st).wp N R B T ↔ (fl st).wp fun ds s => N { s with r := s.r.set i (.own ds) } := by unfold sOwn; simp
@[simp] theorem gN_at {d : PyData} : gN i d st = some { st with r := st.r.set i (.val d) } := rfl
@[simp] theorem gT_atL {n : Nat} {gs : List PyData → Sta → Option Sta} {ds : List PyData} : gT n gs (.list ds) st = if ds.length = n then gs ds st else none := rfl
@[simp] theorem gT_at {n : Nat} {gs : List PyData → Sta → Option Sta} {ds : List PyData} : gT n gs (.tuple ds) st = if ds.length = n then gs ds st else none := rfl
@[simp] theorem gsNil_at : gsNil [] st = some st := rfl
@[simp] theorem gsCons_at {g : TGT} {gs : List PyData → Sta → Option Sta} {d : PyData} {r : List PyData} : gsCons g gs (d :: r) st = (g d st).bind (gs r) := rfl
/-- a stored list, if there is one -/
def onSto (o : Option (Nat × List PyData)) (P : Nat → List PyData → Prop) : Prop := match o with
  | some (n, l) => P n l
  | none => False
@[simp] theorem onSto_some {n : Nat} {l : List PyData} {P : Nat → List PyData → Prop} : onSto (some (n, l)) P ↔ P n l := Iff.rfl
@[simp] theorem wp_ixR {C : PyData → Sta → Prop} : (eIxR fa fb st).wp C ↔ (fa st).wp fun x s => (fb s).wp fun k s' => onSto (stoL s' x) fun n l => ∃ j, k = .int j ∧ ∃ y, atI l j = some y ∧ C y s' := by
  unfold eIxR
  rw [wp_bind]
  refine ⟨fun h => wp_mono h fun x s z => wp_mono (wp_bind.mp z) fun y s' z => ?_, fun h => wp_mono h fun x s z => wp_bind.mpr (wp_mono z fun y s' q => by
    cases e1 : stoL s' x with
    | none => rw [e1] at q; exact q.elim
    | some nl =>
      rw [e1] at q
      obtain ⟨j, e2, w, e3, z⟩ := q
      subst e2
      simp only [e3]; exact z)⟩
  split at z
  · rename_i n l j e
    cases ea : atI l j with
    | none => rw [ea] at z; exact z.elim
    | some w => rw [ea] at z; rw [e]; exact ⟨_, rfl, _, ea, z⟩
  · exact z.elim
@[simp] theorem wp_setR {fv : ED} : (sSetR fa fb fv st).wp N R B T ↔ (fv st).wp fun v s1 => (fa s1).wp fun x s2 => (fb s2).wp fun k s3 => onSto (stoL s3 x) fun n l => ∃ j, k = .int j ∧ ∃ m, ixN l.length j = some m ∧ N { s3 with s := s3.s.set n (.lst (l.set m v)) } := by
  unfold sSetR
  rw [wp_run]
  refine ⟨fun h => wp_mono h fun v s1 z => wp_mono (wp_run.mp z) fun x s2 z => wp_mono (wp_run.mp z) fun k s3 z => ?_, fun h => wp_mono h fun v s1 z => wp_run.mpr (wp_mono z fun x s2 z => wp_run.mpr (wp_mono z fun k s3 q => by
    cases e1 : stoL s3 x with
    | none => rw [e1] at q; exact q.elim
    | some nl =>
      rw [e1] at q
      obtain ⟨j, e2, m, e3, z⟩ := q
      subst e2
      simp only [e3]; exact z))⟩
  split at z
  · rename_i n l j e
    cases ea : ixN l.length j with
    | none => rw [ea] at z; exact z.elim
    | some w => rw [ea] at z; rw [e]; exact ⟨_, rfl, _, ea, z⟩
  · exact z.elim
@[simp] theorem wp_iSeq : (iSeq fa st).wp D ↔ (fa st).wp fun x s => ∃ l, itemsOf x = some l ∧ D l s := by
  unfold iSeq
  rw [wp_bind]
  refine ⟨fun h => wp_mono h fun x s z => ?_, fun h => wp_mono h fun x s ⟨l, e, z⟩ => by rw [e]; exact z⟩
  cases e : itemsOf x with
  | none => rw [e] at z; exact z.elim
  | some l => rw [e] at z; exact ⟨_, rfl, z⟩
@[simp] theorem wp_iEnm : (iEnm fa st).wp D ↔ (fa st).wp fun x s => ∃ l, itemsOf x = some l ∧ D (enumD 0 l) s := by
  unfold iEnm
  rw [wp_bind]
  refine ⟨fun h => wp_mono h fun x s z => ?_, fun h => wp_mono h fun x s ⟨l, e, z⟩ => by rw [e]; exact z⟩
  cases e : itemsOf x with
  | none => rw [e] at z; exact z.elim
  | some l => rw [e] at z; exact ⟨_, rfl, z⟩
@[simp] theorem wp_iZip : (iZip fa fb st).wp D ↔ (fa st).wp fun x s => (fb s).wp fun y s' => ∃ l, itemsOf x = some l ∧ ∃ m, itemsOf y = some m ∧ D (zipD l m) s' := by
  unfold iZip
  rw [wp_bind]
  refine ⟨fun h => wp_mono h fun x s z => wp_mono (wp_bind.mp z) fun y s' z => ?_, fun h => wp_mono h fun x s z => wp_bind.mpr (wp_mono z fun y s' ⟨l, e, m, e', z⟩ => by rw [e, e']; exact z)⟩
  split at z
  · rename_i l m e1 e2
    exact ⟨l, e1, m, e2, z⟩
  · exact z.elim
@[simp] theorem wp_rg1 : (iRg1 fa st).wp D ↔ (fa st).wp fun x s => ∃ n, x = .int n ∧ (-1000000 ≤ n ∧ n ≤ 1000000) ∧ D (rgD 0 n) s := by
  unfold iRg1
  rw [wp_bind]
  refine ⟨fun h => wp_mono h fun x s z => ?_, fun h => wp_mono h fun x s ⟨n, e, e2, z⟩ => by subst e; dsimp only; rw [if_pos e2]; exact z⟩
  cases x with
  | int n =>
    dsimp only at z
    split at z
    · exact ⟨_, rfl, by assumption, z⟩
    · exact z.elim
  | _ => exact z.elim
@[simp] theorem wp_nrg1 : (nRg1 fa st).wp D ↔ (fa st).wp fun x s => ∃ n, x = .int n ∧ (-1000000 ≤ n ∧ n ≤ 1000000) ∧ D (rgD 0 n) s := by
  unfold nRg1
  rw [wp_bind]
  refine ⟨fun h => wp_mono h fun x s z => ?_, fun h => wp_mono h fun x s ⟨n, e, e2, z⟩ => by subst e; dsimp only; rw [if_pos e2]; exact z⟩
  cases x with
  | int n =>
    dsimp only at z
    split at z
    · exact ⟨_, rfl, by assumption, z⟩
    · exact z.elim
  | _ => exact z.elim
@[simp] theorem wp_rg2 : (iRg2 fa fb st).wp D ↔ (fa st).wp fun x s => (fb s).wp fun y s' => ∃ m, x = .int m ∧ ∃ n, y = .int n ∧ ((-1000000 ≤ m ∧ m ≤ 1000000) ∧ -1000000 ≤ n ∧ n ≤ 1000000) ∧ D (rgD m n) s' := by
  unfold iRg2
  rw [wp_bind]
  refine ⟨fun h => wp_mono h fun x s z => wp_mono (wp_bind.mp z) fun y s' z => ?_, fun h => wp_mono h fun x s z => wp_bind.mpr (wp_mono z fun y s' ⟨m, e, n, e', e2, z'⟩ => by subst e e'; dsimp only; rw [if_pos e2]; exact z')⟩
  split at z
  · split at z
    · exact ⟨_, rfl, _, rfl, by assumption, z⟩
    · exact z.elim
  · exact z.elim
@[simp] theorem wp_sl {lo hi : EO} : (eSl fa lo hi st).wp C ↔ (fa st).wp fun x s => (lo s).wp fun a s1 => (hi s1).wp fun b s2 => ∃ d, slD x a b = some d ∧ C d s2 := by
  unfold eSl
  rw [wp_bind]
  refine ⟨fun h => wp_mono h fun x s z => wp_mono (wp_bind.mp z) fun a s1 z => wp_mono (wp_bind.mp z) fun b s2 z => ?_, fun h => wp_mono h fun x s z => wp_bind.mpr (wp_mono z fun a s1 z => wp_bind.mpr (wp_mono z fun b s2 ⟨d, e, z⟩ => by rw [e]; exact z))⟩
  cases e : slD x a b with
  | none => rw [e] at z; exact z.elim
  | some d => rw [e] at z; exact ⟨_, rfl, z⟩
@[simp] theorem wp_oNone {O : Option Int → Sta → Prop} : (oNone st).wp O ↔ O none st := Iff.rfl
@[simp] theorem wp_oSome {O : Option Int → Sta → Prop} : (oSome fa st).wp O ↔ (fa st).wp fun x s => ∃ n, x = .int n ∧ O (some n) s := by
  unfold oSome
  rw [wp_bind]
  refine ⟨fun h => wp_mono h fun x s z => ?_, fun h => wp_mono h fun x s ⟨n, e, z⟩ => by subst e; exact z⟩
  cases x <;> first | exact ⟨_, rfl, z⟩ | exact z.elim
@[simp] theorem wp_idxT : (eIdxT fa fb st).wp C ↔ (fa st).wp fun x s => ∃ ys, x = .tuple ys ∧ (fb s).wp fun y s' => ∃ d, ixFlat y ys = some d ∧ C d s' := by
  unfold eIdxT
  rw [wp_bind]
  refine ⟨fun h => wp_mono h fun x s z => ?_, fun h => wp_mono h fun x s ⟨ys, e, z⟩ => ?_⟩
  · cases x with
    | tuple ys =>
      refine ⟨ys, rfl, wp_mono (wp_bind.mp z) fun y s' z => ?_⟩
      cases e : ixFlat y ys with
      | none => rw [e] at z; exact z.elim
      | some d => rw [e] at z; exact ⟨_, rfl, z⟩
    | _ => exact z.elim
  · subst e
    exact wp_bind.mpr (wp_mono z fun y s' ⟨d, e, z⟩ => by rw [e]; exact z)
@[simp] theorem wp_prtD {Y : Slot → Sta → Prop} : ((Prt.d fa).ev st).wp Y ↔ (fa st).wp fun d s => Y (.val d) s := by unfold Prt.ev; simp
@[simp] theorem wp_prtN {Y : Slot → Sta → Prop} : ((Prt.n fl).ev st).wp Y ↔ (fl st).wp fun d s => Y (.own d) s := by unfold Prt.ev; simp
@[simp] theorem wp_par2 {j : Nat} {p q : Prt} : (sPar2 i j p q st).wp N R B T ↔ (p.ev st).wp fun a s1 => (q.ev s1).wp fun b s2 => N { s2 with r := (s2.r.set i a).set j b } := by unfold sPar2; simp
@[simp] theorem wp_par3 {j k : Nat} {p q o : Prt} : (sPar3 i j k p q o st).wp N R B T ↔ (p.ev st).wp fun a s1 => (q.ev s1).wp fun b s2 => (o.ev s2).wp fun c s3 => N { s3 with r := ((s3.r.set i a).set j b).set k c } := by unfold sPar3; simp
@[simp] theorem sApp_at : sApp i fa st = match st.r[i]? with
    | some (.own _) => (fa st).run fun d s => match s.r[i]? with
      | some (.own l) => if l.length < 16777216 then .nx { s with r := s.r.set i (.own (l ++ [d])) } else .bad
      | _ => .bad
    | _ => .bad := by unfold sApp; rfl
@[simp] theorem ePop_at : ePop i fa st = match st.r[i]? with
    | some (.own _) => (fa st).bind fun d s => match s.r[i]?, d with
      | some (.own l), .int k => if 0 ≤ k then (match l[k.toNat]? with
        | some y => .ok y { s with r := s.r.set i (.own (l.eraseIdx k.toNat)) }
        | none => .bad) else .bad
      | _, _ => .bad
    | _ => .bad := by unfold ePop; rfl
@[simp] theorem eLenO_at : eLenO i st = match st.r[i]? with
    | some (.own l) => .ok (.int l.length) st
    | _ => .bad := by unfold eLenO; rfl
/-! ### loops -/
theorem wp_for {f : EL} {g : TGT} {b : SD} (h : (f st).wp fun ds s => (forD g b ds s).wp N R B T) : (sFor f g b st).wp N R B T := by unfold sFor; rw [wp_run]; exact h
theorem forD_nil {g : TGT} {b : SD} : (forD g b [] st).wp N R B T ↔ N st := Iff.rfl
theorem forD_cons {g : TGT} {b : SD} {d : PyData} {ds : List PyData} : (forD g b (d :: ds) st).wp N R B T ↔ ∃ s1, g d st = some s1 ∧ (b s1).wp (fun s2 => (forD g b ds s2).wp N R B T) R N (fun s2 => (forD g b ds s2).wp N R B T) := by
  show (match g d st with
    | none => Ou.bad
    | some s1 => match b s1 with
      | .nx s2 => forD g b ds s2
      | .ct s2 => forD g b ds s2
      | .bk s2 => .nx s2
      | x => x).wp N R B T ↔ _
  cases e : g d st with
  | none => simp
  | some s1 => cases eb : b s1 <;> simp [Ou.wp, eb]
theorem forD_wp {g : TGT} {b : SD} (I : Nat → Sta → Prop) {ds : List PyData} (step : ∀ i d s, ds[i]? = some d → I i s → ∃ s1, g d s = some s1 ∧ (b s1).wp (I (i + 1)) R N (I (i + 1))) (fin : ∀ s, I ds.length s → N s) {s : Sta} (h0 : I 0 s) : (forD g b ds s).wp N R B T := by
  suffices h : ∀ (es : List PyData) (i : Nat) (s : Sta), i + es.length = ds.length → (∀ j, es[j]? = ds[i + j]?) → I i s → (forD g b es s).wp N R B T from h ds 0 s (Nat.zero_add _) (fun j => by rw [Nat.zero_add]) h0
  intro es
  induction es with
  | nil =>
    intro i s z e hI
    have hi : i = ds.length := by simpa using z
    subst hi
    exact fin s hI
  | cons d es ih =>
    intro i s z e hI
    have hd : ds[i]? = some d := by have := e 0; rw [Nat.add_zero] at this; exact this.symm.trans rfl
    obtain ⟨s1, eg, hb⟩ := step i d s hd hI
    have next : ∀ s2, I (i + 1) s2 → (forD g b es s2).wp N R B T := fun s2 q => ih (i + 1) s2 (by rw [List.length_cons] at z; omega) (fun j => by have := e (j + 1); rw [List.getElem?_cons_succ] at this; rw [this]; congr 1; omega) q
    unfold forD
    rw [eg]
    dsimp only
    cases eb : b s1 with
    | nx s2 => rw [eb] at hb; exact next s2 hb
    | ct s2 => rw [eb] at hb; exact next s2 hb
    | bk s2 => rw [eb] at hb; exact hb
    | rt d s2 => rw [eb] at hb; exact hb
    | ex c s2 => rw [eb] at hb; exact hb
    | bad => rw [eb] at hb; exact hb
/-! ### comprehensions -/
theorem lcD_wp {g : TGT} {tt : ET} {te : ED} {vs : List Nat} (I : Nat → List PyData → Sta → Prop) {ds : List PyData}
    (step : ∀ i d acc s, ds[i]? = some d → I i acc s → ∃ s1, g d s = some s1 ∧ (tt s1).wp fun k s2 => (k = true → (te s2).wp fun y s3 => I (i + 1) (acc ++ [y]) (wipeS vs s3)) ∧ (k = false → I (i + 1) acc (wipeS vs s2))) {s : Sta} (h0 : I 0 [] s) : (lcD g tt te vs ds [] s).wp (I ds.length) := by
  suffices h : ∀ (es : List PyData) (i : Nat) (acc : List PyData) (s : Sta), i + es.length = ds.length → (∀ j, es[j]? = ds[i + j]?) → I i acc s → (lcD g tt te vs es acc s).wp (I ds.length) from h ds 0 [] s (Nat.zero_add _) (fun j => by rw [Nat.zero_add]) h0
  intro es
  induction es with
  | nil =>
    intro i acc s z e hI
    have hi : i = ds.length := by simpa using z
    subst hi
    exact hI
  | cons d es ih =>
    intro i acc s z e hI
    have hd : ds[i]? = some d := by have := e 0; rw [Nat.add_zero] at this; exact this.symm.trans rfl
    obtain ⟨s1, eg, hb⟩ := step i d acc s hd hI
    have next : ∀ acc s2, I (i + 1) acc s2 → (lcD g tt te vs es acc s2).wp (I ds.length) := fun acc s2 q => ih (i + 1) acc s2 (by rw [List.length_cons] at z; omega) (fun j => by have := e (j + 1); rw [List.getElem?_cons_succ] at this; rw [this]; congr 1; omega) q
    unfold lcD
    rw [eg]
    dsimp only
    cases et : tt s1 with
    | ok k s2 =>
      rw [et] at hb
      simp only [Rs.nox_ok, Rs.bind_ok]
      obtain ⟨h1, h2⟩ := hb
      cases k with
      | true =>
        rw [if_pos rfl]
        have h1 := h1 rfl
        cases ey : te s2 with
        | ok y s3 => rw [ey] at h1; exact next _ _ h1
        | ex c s3 => rw [ey] at h1; exact h1.elim
        | bad => rw [ey] at h1; exact h1.elim
      | false => rw [if_neg Bool.false_ne_true]; exact next _ _ (h2 rfl)
    | ex c s2 => rw [et] at hb; exact hb.elim
    | bad => rw [et] at hb; exact hb.elim
theorem back_wipe (r : List Slot) : ∀ vs : List Nat, backR r (wipeR r vs) vs = r := fun vs => by
  have hl : (backR r (wipeR r vs) vs).length = r.length := by rw [backR_len, wipeR_len]
  refine List.ext_getElem? fun i => ?_
  by_cases hv : i ∈ vs
  · by_cases hi : i < r.length
    · rw [backR_in hv (by rw [wipeR_len]; exact hi), List.getD_eq_getElem?_getD, List.getElem?_eq_getElem hi]; rfl
    · rw [List.getElem?_eq_none (by omega), List.getElem?_eq_none (by omega)]
  · rw [backR_out hv, wipeR_out hv]
/-- any comprehension -/
theorem wp_lc {f : EL} {g : TGT} {tt : ET} {te : ED} {vs : List Nat} (h : (f st).wp fun ds s => ∃ I : Nat → List PyData → Sta → Prop, I 0 [] (wipeS vs s) ∧
    (∀ i d acc s, ds[i]? = some d → I i acc s → ∃ s1, g d s = some s1 ∧ (tt s1).wp fun k s2 => (k = true → (te s2).wp fun y s3 => I (i + 1) (acc ++ [y]) (wipeS vs s3)) ∧ (k = false → I (i + 1) acc (wipeS vs s2))) ∧
    ∀ acc s', I ds.length acc s' → D acc { s' with r := backR s.r s'.r vs }) : (nLc f g tt te vs st).wp D := by
  unfold nLc
  rw [wp_bind]
  refine wp_mono h fun ds s ⟨I, h0, step, fin⟩ => ?_
  rw [wp_bind]
  exact wp_mono (lcD_wp I step h0) fun acc s' z => fin acc s' z
/-- one that changes nothing: p the test, h the item -/
theorem wp_lcP {f : EL} {g : TGT} {tt : ET} {te : ED} {vs : List Nat} (p : PyData → Bool) (h : PyData → PyData) (hh : (f st).wp fun ds s => (∀ d ∈ ds, ∃ s1, g d (wipeS vs s) = some s1 ∧ ((tt s1).wp fun k s2 => k = p d ∧ s2 = s1) ∧ (p d = true → (te s1).wp fun y s2 => y = h d ∧ s2 = s1) ∧ wipeS vs s1 = wipeS vs s) ∧ D ((ds.filter p).map h) s) :
    (nLc f g tt te vs st).wp D := by
  refine wp_lc (wp_mono hh fun ds s ⟨all, fin⟩ => ⟨fun i acc s' => acc = ((ds.take i).filter p).map h ∧ s' = wipeS vs s, ⟨by simp, rfl⟩, fun i d acc s' hd ⟨ea, es⟩ => ?_, fun acc s' ⟨ea, es⟩ => ?_⟩)
  · subst es
    obtain ⟨s1, eg, ht, hy, hw⟩ := all d (List.mem_of_getElem? hd)
    refine ⟨s1, eg, wp_mono ht fun k s2 ⟨e1, e2⟩ => ?_⟩
    subst e1 e2
    refine ⟨fun hp => wp_mono (hy hp) fun y s3 ⟨e1, e2⟩ => ?_, fun hp => ⟨?_, hw⟩⟩
    · subst e1 e2
      exact ⟨by rw [ea, List.take_add_one, hd, Option.toList_some, List.filter_append, List.map_append]; simp [hp], hw⟩
    · rw [ea, List.take_add_one, hd, Option.toList_some, List.filter_append, List.map_append]; simp [hp]
  · subst es
    rw [List.take_length] at ea
    subst ea
    show D _ { wipeS vs s with r := backR s.r (wipeR s.r vs) vs }
    rw [back_wipe]
    exact fin
end
end DL
/-! DN: list.index over any data; copies of stored lists. -/
namespace DL
open PySem PySem.Spec PyProof.Rows L2
section
variable {X : Cx} {E : EX} {pos apos p : Pos} {e a b c o : Expr} {fa fb fc fo fv : ED} {x : Str}
def ixDeep (y : PyData) (ys : List PyData) : Option PyData := if shp (.list ys) && shp y then (ixOf y ys 0).map fun j => .int (j : Nat) else none
def eIdxL (fo fa : ED) : ED := fun st => (fo st).bind fun x s1 => match x with
  | .list ys => (fa s1).bind fun y s2 => match ixDeep y ys with
    | some d => .ok d s2
    | none => .bad
  | _ => .bad
theorem de_idxL {apos : Pos} (hu : X.A.units + 65 < cLine) (ho : PE X o (tD X.K E fa)) (ha : PE X e (tD X.K E fb)) (hbase : attributeBase o "index" X.env (eval o X.env) = eval o X.env := by rfl)
    (hfew : ((backTo pos (starEach [e] X.env)).all (fun x => !x.1) && (backToKw pos (keywordEach [] X.env)).all (fun x => x.1.isSome) && decide ([e].length + ([] : List Keyword).length + (if ([] : List Keyword).isEmpty then 0 else 1) < 30)) = true := by rfl)
    (hline : (apos.endLine == pos.line) = true := by rfl) (hs : starEach [e] X.env = (false, eval e X.env) :: starEach [] X.env := by rfl) : PE X (.Call (.Attribute o "index" apos) [e] [] pos) (tD X.K E (eIdxL fa fb)) := by
  refine pe_imp (pe_bm PySem.F.plainAttrs_list PySem.F.slot_list_index PySem.F.type_list_index (mt_indexD hu) ho (pa_cons ha pa_nil hs) hbase hfew hline hs) fun σ H Q h => ?_
  obtain ⟨W, st, R, h⟩ := h
  refine tD_of R (h.then.imp fun x s1 W1 H1 _ R1 X1 h1 v hv => ?_)
  cases x with
  | list ys =>
    cases hv with
    | @lst p xs _ f z hxs =>
      refine ⟨.inl ⟨rfl, xs, f.sq⟩, tD_of R1 (h1.then.imp fun y s2 W2 H2 _ R2 X2 h2 u hu => ?_)⟩
      cases ex : ixDeep y ys with
      | none => rw [ex] at h2; exact h2.elim
      | some d =>
        rw [ex] at h2
        unfold ixDeep at ex
        split at ex
        · rename_i hc
          rw [Bool.and_eq_true] at hc
          cases ej : ixOf y ys 0 with
          | none => rw [ej] at ex; cases ex
          | some j =>
            rw [ej] at ex
            cases ex
            obtain ⟨k, w, e1, e2, e3, e4⟩ := ixOf_some ej
            have ek : j = k := by omega
            subst ek
            exact ⟨_, u, y, ys, j, w, rfl, rfl, IsD.dp _ (shp_lay hc.1) (.lst (f.lat (R1.lat X2)) z (hxs.lat (R1.lat X2))), IsD.dp _ (shp_lay hc.2) hu, hc.1, hc.2, e2, e3, fun m z' hm hz => e4 m z' hm hz, h2 W2 H2 R2 .refl _ (.int _)⟩
        · cases ex
  | _ => exact h1.elim
@[simp] theorem wp_idxL {C : PyData → Sta → Prop} {st : Sta} : (eIdxL fa fb st).wp C ↔ (fa st).wp fun x s => ∃ ys, x = .list ys ∧ (fb s).wp fun y s' => ∃ d, ixDeep y ys = some d ∧ C d s' := by
  unfold eIdxL
  rw [wp_bind]
  refine ⟨fun h => wp_mono h fun x s z => ?_, fun h => wp_mono h fun x s ⟨ys, e, z⟩ => ?_⟩
  · cases x with
    | list ys =>
      refine ⟨ys, rfl, wp_mono (wp_bind.mp z) fun y s' z => ?_⟩
      cases e : ixDeep y ys with
      | none => rw [e] at z; exact z.elim
      | some d => rw [e] at z; exact ⟨_, rfl, z⟩
    | _ => exact z.elim
  · subst e
    exact wp_bind.mpr (wp_mono z fun y s' ⟨d, e, z⟩ => by rw [e]; exact z)
/-- list(x), x a list in the store: a list of one's own with the same items -/
def nCopy (fa : ED) : EL := fun st => (fa st).bind fun x s => match stoL s x with
  | some (_, l) => .ok l s
  | none => .bad
theorem dn_copy (hm : X.mg "list" = none) (ha : PE X e (tD X.K E fa)) (hg : Gl X "list" := by rfl) (hs : starEach [e] X.env = (false, eval e X.env) :: starEach [] X.env := by rfl) : PE X (.Call (.Name "list" p) [e] [] pos) (tN X.K E (nCopy fa)) := by
  refine pe_imp (pe_callTy call_list_of hg hm (by decide +kernel) (pa_cons ha pa_nil hs) (by decide) (by decide) hs) fun σ H Q h => ?_
  obtain ⟨W, st, R, h⟩ := h
  refine tD_of R (h.then.imp fun x s1 W1 H1 _ R1 X1 h1 v hv => ?_)
  cases es : stoL s1 x with
  | none => rw [es] at h1; exact h1.elim
  | some nl =>
    obtain ⟨n, l⟩ := nl
    rw [es] at h1
    obtain ⟨a, xs, rfl, _, q1, q2, q3⟩ := stoL_at R1 hv es
    refine ⟨a, xs, rfl, .inl (SqL.of q1), fun q hq => ?_⟩
    have g := Fok.new (p := q) (o := .lst xs) R1.fok hq
    refine h1 W1 _ (g.rel R1) g.ext q (R1.fre hq g upd_same (q2.lat g.lat) q3) ?_
    cases z : H q with
    | none => rfl
    | some o => exact absurd hq (X1.dom q (by rw [z]; simp))
@[simp] theorem wp_copy {D : List PyData → Sta → Prop} {st : Sta} : (nCopy fa st).wp D ↔ (fa st).wp fun x s => onSto (stoL s x) fun _ l => D l s := by
  unfold nCopy
  rw [wp_bind]
  refine ⟨fun h => wp_mono h fun x s z => ?_, fun h => wp_mono h fun x s z => ?_⟩
  · cases e : stoL s x with
    | none => rw [e] at z; exact z.elim
    | some nl => rw [e] at z; exact z
  · cases e : stoL s x with
    | none => rw [e] at z; exact z.elim
    | some nl => rw [e] at z; exact z
end
end DL
/-! DO: dicts whose keys are tuples of numbers: comprehension, get, item, items. -/
namespace DL
open PySem PySem.Spec PyProof.Rows L2
section
variable {X : Cx} {pins : List (Addr × Obj)} {σ : L2.St} {H : Hp} {s : Shared} {a b D : Addr}
abbrev XE := List (List Int × Addr × Value)
theorem itemsZ {P : Program} {w : World} : ∀ {ks : List Int} {us : List Value}, Vals (ks.map V.int) us → ItemsAre (intKind P w) ks us
  | [], _, r => by rw [List.map_nil] at r; cases r; exact .nil
  | k :: ks, _, r => by
    rw [List.map_cons] at r
    cases r with
    | cons h t =>
      obtain ⟨tk, rfl⟩ := (show ∃ t, _ = Value.int k t from h)
      exact .cons (by show Value.isInt k (Value.int k tk) = true; simp [Value.isInt]) (itemsZ t)
theorem keyZ {P : Program} {w : World} (I : Inv X pins σ H s) {ks : List Int} (h : TupK H b ks) : (tupleKind (intKind P w)).is s.heap ks b := by
  obtain ⟨its, rv, ⟨o, ho, hc, n, hd⟩, _⟩ := I.tuple h.1.sq
  exact ⟨o, its.toArray, n, ho, hc, hd, by simpa using itemsZ rv⟩
theorem dctH (I : Inv X pins σ H s) {xs : XE} (h : DRaw a xs s.heap) (ht : ∀ x ∈ xs, TupK H x.2.1 x.1) : s.heap.DictOfH (tupleKind (intKind X.prog X.w)) a xs ∧ (a == sysModules) = false := by
  obtain ⟨o, es, ep, ho, hx, hd, he, hn, hs⟩ := h
  exact ⟨⟨o, es, ep, ho, hx, hd, he, fun x hx => keyZ I (ht x hx), hn⟩, hs⟩
theorem rawOf (I : Inv X pins σ H s) {o : Obj} {xs : XE} (h : H a = some (.frz o (.ext (DRaw a xs)))) : DRaw a xs s.heap := by
  obtain ⟨_, q, _⟩ := I.hok a _ h
  exact q
theorem dctO (I : Inv X pins σ H s) {o : Obj} {xs : XE} (h : H a = some (.frz o (.ext (DRaw a xs)))) : s.heap.get? a = some o ∧ o.ExactDict ∧ ∃ es ep, o.data = .dict es ep ∧ es.toList = xs.map dEnt := by
  obtain ⟨e, ⟨o', es, ep, ho, hx, hd, he, _⟩, _⟩ := I.hok a _ h
  rw [e] at ho
  cases ho
  exact ⟨e, hx, es, ep, hd, he⟩
end
/-! ### the data -/
def tupInts : PyData → Option (List Int)
  | .tuple l => intsOf l
  | _ => none
theorem tupInts_map (l : List Int) : tupInts (tupZ l) = some l := by
  unfold tupInts
  dsimp only
  induction l with
  | nil => rfl
  | cons i l ih => rw [List.map_cons]; unfold intsOf; rw [ih]; rfl
theorem tupInts_of {d : PyData} {l : List Int} (h : tupInts d = some l) : d = tupZ l := by
  unfold tupInts at h
  split at h
  · rw [intsOf_map h]
  · cases h
theorem IsDs.ints {K : PySem.W.Frag} {W : Wd} {H : Hp} : ∀ {xs : List V} {l : List Int}, IsDs K W H xs (l.map .int) → xs = l.map V.int := fun h => intsOf_all h rfl
theorem tupZ_at {K : PySem.W.Frag} {W : Wd} {H : Hp} {v : V} {l : List Int} (h : IsD K W H v (tupZ l)) : ∃ b, v = .ref b ∧ TupK H b l := by
  cases h with
  | tup f z hs => rw [hs.ints] at f; exact ⟨_, rfl, f, by simpa using z⟩
/-- what stands at a key -/
def dGet : List PyData → List PyData → List Int → Option PyData
  | k :: kd, d :: ds, ks => if tupInts k = some ks then some d else dGet kd ds ks
  | _, _, _ => none
/-- in its place, or at the end -/
def dPut : List PyData → List PyData → PyData → List Int → PyData → List PyData × List PyData
  | k :: kd, d :: ds, key, ks, v => if tupInts k = some ks then (k :: kd, v :: ds) else (k :: (dPut kd ds key ks v).1, d :: (dPut kd ds key ks v).2)
  | _, _, key, _, v => ([key], [v])
/-- the entries and the data of a dict -/
def DRel (K : PySem.W.Frag) (W : Wd) (H : Hp) (xs : XE) (kd ds : List PyData) : Prop := kd = xs.map (fun x => tupZ x.1) ∧ (∀ x ∈ xs, TupK H x.2.1 x.1) ∧ ∃ vs, Paired (fun v (x : List Int × Addr × Value) => RelV v x.2.2) vs xs ∧ IsDs K W H vs ds
section
variable {K : PySem.W.Frag} {W W' : Wd} {H H' : Hp}
theorem DRel.nil : DRel K W H [] [] [] := ⟨rfl, fun _ h => by simp at h, [], .nil, .nil⟩
theorem DRel.lat {xs : XE} {kd ds : List PyData} (e : Lat W H W' H') (h : DRel K W H xs kd ds) : DRel K W' H' xs kd ds := let ⟨a, b, vs, c, d⟩ := h; ⟨a, fun x hx => (b x hx).lat e, vs, c, d.lat e⟩
theorem DRel.len {xs : XE} {kd ds : List PyData} (h : DRel K W H xs kd ds) : ds.length = xs.length ∧ kd.length = xs.length := by
  obtain ⟨a, _, vs, c, d⟩ := h
  rw [← d.length]
  exact ⟨Paired.length c, by rw [a, List.length_map]⟩
theorem atKey_cons {x : List Int × Addr × Value} {xs : XE} {ks : List Int} : atKey (x :: xs) ks = if x.1 = ks then some x.2 else atKey xs ks := by
  unfold atKey
  rw [List.find?_cons]
  by_cases h : x.1 = ks
  · simp [h]
  · simp [h]
theorem DRel.get : ∀ {xs : XE} {kd ds : List PyData} {ks : List Int}, DRel K W H xs kd ds → (atKey xs ks = none ∧ dGet kd ds ks = none) ∨ ∃ p d v, atKey xs ks = some p ∧ dGet kd ds ks = some d ∧ RelV v p.2 ∧ IsD K W H v d
  | [], kd, ds, ks, ⟨a, b, vs, c, d⟩ => by
    cases c
    cases d
    subst a
    exact .inl ⟨rfl, rfl⟩
  | x :: xs, kd, ds, ks, ⟨a, b, vs, c, d⟩ => by
    cases c with
    | cons r c =>
      cases d with
      | cons q d =>
        subst a
        rw [List.map_cons, atKey_cons]
        unfold dGet
        rw [tupInts_map]
        by_cases h : x.1 = ks
        · rw [if_pos h, if_pos (by rw [h])]
          exact .inr ⟨_, _, _, rfl, rfl, r, q⟩
        · rw [if_neg h, if_neg (fun z => h (Option.some.inj z))]
          exact DRel.get ⟨rfl, fun y hy => b y (List.mem_cons_of_mem _ hy), _, c, d⟩
theorem map_putAt_no {k : List Int} {u : Value} {xs : XE} (h : k ∉ xs.map (·.1)) : xs.map (putAt k u) = xs := map_putAt_of_not_mem xs k u h
theorem DRel.put : ∀ {xs : XE} {kd ds : List PyData} {ks : List Int} {b : Addr} {u : Value} {v : V} {d key : PyData}, DRel K W H xs kd ds → (xs.map (·.1)).Nodup → key = tupZ ks → TupK H b ks → RelV v u → IsD K W H v d →
    DRel K W H (storedH xs ks b u) (dPut kd ds key ks d).1 (dPut kd ds key ks d).2
  | [], kd, ds, ks, b, u, v, d, key, ⟨a, q, vs, c, e⟩, nd, ek, hb, r, hv => by
    cases c
    cases e
    subst a ek
    refine ⟨rfl, fun x hx => ?_, [v], .cons r .nil, .cons hv .nil⟩
    have : x = (ks, b, u) := by simpa [storedH, atKey] using hx
    subst this
    exact hb
  | x :: xs, kd, ds, ks, b, u, v, d, key, ⟨a, q, vs, c, e⟩, nd, ek, hb, r, hv => by
    rw [List.map_cons, List.nodup_cons] at nd
    cases c with
    | cons r0 c =>
      cases e with
      | cons q0 e =>
        subst a
        rw [List.map_cons]
        unfold dPut
        rw [tupInts_map]
        by_cases h : x.1 = ks
        · rw [if_pos (by rw [h])]
          have es : storedH (x :: xs) ks b u = (x.1, x.2.1, u) :: xs := by
            unfold storedH
            rw [atKey_cons, if_pos h]
            simp only [Option.isSome_some, if_true, List.map_cons]
            rw [map_putAt_no (by rw [← h]; exact nd.1)]
            simp [putAt, h]
          rw [es]
          refine ⟨rfl, fun y hy => ?_, _, .cons r c, .cons hv e⟩
          rcases List.mem_cons.mp hy with hy | hy
          · subst hy
            exact q x List.mem_cons_self
          · exact q y (List.mem_cons_of_mem _ hy)
        · rw [if_neg (fun z => h (Option.some.inj z))]
          have ih := DRel.put (xs := xs) (kd := xs.map fun x => tupZ x.1) (u := u) (v := v) ⟨rfl, fun y hy => q y (List.mem_cons_of_mem _ hy), _, c, e⟩ nd.2 ek hb r hv
          have es : storedH (x :: xs) ks b u = x :: storedH xs ks b u := by
            unfold storedH
            rw [atKey_cons, if_neg h]
            by_cases z : (atKey xs ks).isSome = true
            · rw [if_pos z, if_pos z, List.map_cons]
              simp [putAt, h]
            · rw [if_neg z, if_neg z]; rfl
          rw [es]
          obtain ⟨i1, i2, ws, i3, i4⟩ := ih
          refine ⟨by rw [List.map_cons]; exact congrArg _ i1, fun y hy => ?_, _, .cons r0 i3, .cons q0 i4⟩
          rcases List.mem_cons.mp hy with hy | hy
          · subst hy
            exact q y List.mem_cons_self
          · exact i2 y hy
end
/-! ### d.get(k, x) -/
section
variable {X : Cx} {E : EX} {pos apos p : Pos} {e a b c o : Expr} {fa fb fc fo fv : ED} {x : Str}
def opGet : PyData → PyData → PyData → Option PyData
  | .dict [(.list [.list kd], .list ds)], k, z => (tupInts k).map fun ks => (dGet kd ds ks).getD z
  | _, _, _ => none
def rGetZ (K : PySem.W.Frag) : V → List V → Hp → VK → Prop := fun x xs H Q => ∃ W dx dk dz y k z, xs = [k, z] ∧ IsD K W H x dx ∧ IsD K W H k dk ∧ IsD K W H z dz ∧ opGet dx dk dz = some y ∧ Fok W H ∧ ∀ v W' H', Grow W H W' H' → IsD K W' H' v y → Q v H'
theorem opGet_some {dx dk dz y : PyData} (h : opGet dx dk dz = some y) : ∃ kd ds ks, dx = dcD kd ds ∧ dk = tupZ ks ∧ y = (dGet kd ds ks).getD dz := by
  unfold opGet at h
  split at h
  · cases e : tupInts dk with
    | none => rw [e] at h; cases h
    | some ks => rw [e] at h; cases h; exact ⟨_, _, ks, rfl, tupInts_of e, rfl⟩
  · cases h
theorem mt_getZ (hu : X.A.units + 1 < cLine) : MtR X "dict.get" (rGetZ X.K) := by
  intro pins s σ H x xs v us Q I rx rxs h
  obtain ⟨W, dx, dk, dz, y, k, z, rfl, hx, hk, hz, e, fok, q⟩ := h
  obtain ⟨kd, ds, ks, rfl, rfl, rfl⟩ := opGet_some e
  cases hx with
  | @dct a o es vs _ _ ek hd ht hv z hs =>
    cases rx
    obtain ⟨b, rfl, hb⟩ := tupZ_at hk
    obtain ⟨hD, hsm⟩ := dctH I (rawOf I hd) ht
    cases rxs with
    | cons r1 rxs =>
      cases rxs with
      | cons r2 rxs =>
        cases rxs
        cases r1
        refine call_meetsIn PySem.F.slot_dict_get hD.typeIs PySem.F.entry_dict_get (PySem.F.args_dict_get_3 _ _ _) (meetsH_dict_get_default (tupleKind (intKind X.prog X.w)) a b hsm _) ⟨tupleKind_room_in1 hu, ks, es, keyZ I hb, hD, ?_⟩
        rcases DRel.get (ks := ks) ⟨ek, ht, vs, hv, hs⟩ with ⟨e1, e2⟩ | ⟨p, d, w, e1, e2, rw1, hw⟩
        · rw [e1]
          rw [e2] at q
          exact ⟨_, H, I.tok _, r2, q _ W H fok.refl hz⟩
        · rw [e1]
          rw [e2] at q
          exact ⟨w, H, I.tok _, rw1, q w W H fok.refl hw⟩
/-- o.m(e, ..) of a dict of ours -/
def tBMZ (K : PySem.W.Frag) (r : V → List V → Hp → VK → Prop) (to : TE) (t : TA) : TE := fun σ H Q => to σ H fun x H1 => (∃ p o xs, x = .ref p ∧ H1 p = some (.frz o (.ext (DRaw p xs)))) ∧ t σ H1 fun xs H2 => r x xs H2 Q
theorem pe_bmZ {es : List Expr} {to : TE} {t : TA} {id : String} {name : Str} {apos cpos : Pos} {r : V → List V → Hp → VK → Prop} (slot : PySem.Slot "dict" name id) (hty : typeOf (.builtin id) = pure (.type "method_descriptor")) (hm : MtR X id r) (ho : PE X o to) (ha : PA X (e :: es) t)
    (hbase : attributeBase o name X.env (eval o X.env) = eval o X.env := by rfl)
    (hfew : ((backTo cpos (starEach (e :: es) X.env)).all (fun x => !x.1) && (backToKw cpos (keywordEach [] X.env)).all (fun x => x.1.isSome)
      && decide ((e :: es).length + ([] : List Keyword).length + (if ([] : List Keyword).isEmpty then 0 else 1) < 30)) = true := by rfl)
    (hline : (apos.endLine == cpos.line) = true := by rfl) (hs : starEach (e :: es) X.env = (false, eval e X.env) :: starEach es X.env := by rfl) (hplain : (backTo cpos (starEach es X.env)).any (·.1) = false := by rfl) :
    PE X (.Call (.Attribute o name apos) (e :: es) [] cpos) (tBMZ X.K r to t) := by
  refine ⟨fun pins s σ H Q I h => ?_⟩
  refine wpAny_Call_method_late hbase hfew hline rfl (thn (ho.run pins s σ H _ I h) fun v s1 ⟨x, H1, I1, r1, ⟨p, o', xs, ex, ho'⟩, q1⟩ => ?_)
  subst ex
  obtain rfl : v = Value.ref p := r1
  obtain ⟨hg, hxd, _⟩ := dctO I1 ho'
  refine ⟨"dict", id, PySem.F.plainAttrs_dict, slot, hty, ⟨o', hg, hxd.1⟩, fun a ea => by cases ea; exact ⟨o', hg, hxd.2.1⟩, ?_⟩
  have hA := ha.run cpos pins s1 σ H1 _ I1 q1
  rw [hs] at hA ⊢
  refine Calls.callWith_builtin (by show (false || (backTo cpos (starEach es X.env)).any (·.1)) = false; rw [hplain] <;> rfl) (Calls.evalArgs_plain ?_)
  exact thn hA fun us s2 ⟨vs, H2, I2, r2, q2⟩ => hm pins s2 σ H2 (.ref p) vs _ us Q I2 rfl r2 q2
def isDc : PyData → Bool
  | .dict [(.list [.list _], .list _)] => true
  | _ => false
theorem isDc_at {K : PySem.W.Frag} {W : Wd} {H : Hp} {v : V} {d : PyData} (h : IsD K W H v d) (e : isDc d = true) : ∃ p o xs, v = .ref p ∧ H p = some (.frz o (.ext (DRaw p xs))) := by
  cases h with
  | dct _ hd _ _ _ _ => exact ⟨_, _, _, rfl, hd⟩
  | _ => first | cases e | (unfold isDc at e; split at e <;> simp_all)
def eGet (fo fa fb : ED) : ED := fun st => (fo st).bind fun x s1 => if isDc x = true then (fa s1).bind fun k s2 => (fb s2).bind fun z s3 => match opGet x k z with
  | some d => .ok d s3
  | none => .bad
  else .bad
theorem de_get (hu : X.A.units + 1 < cLine) (ho : PE X o (tD X.K E fo)) (ha : PE X a (tD X.K E fa)) (hb : PE X b (tD X.K E fb)) (hbase : attributeBase o "get" X.env (eval o X.env) = eval o X.env := by rfl)
    (hfew : ((backTo pos (starEach [a, b] X.env)).all (fun x => !x.1) && (backToKw pos (keywordEach [] X.env)).all (fun x => x.1.isSome) && decide ([a, b].length + ([] : List Keyword).length + (if ([] : List Keyword).isEmpty then 0 else 1) < 30)) = true := by rfl)
    (hline : (apos.endLine == pos.line) = true := by rfl) (hs : starEach [a, b] X.env = (false, eval a X.env) :: starEach [b] X.env := by rfl) (hs2 : starEach [b] X.env = (false, eval b X.env) :: starEach [] X.env := by rfl) (hplain : (backTo pos (starEach [b] X.env)).any (·.1) = false := by rfl) :
    PE X (.Call (.Attribute o "get" apos) [a, b] [] pos) (tD X.K E (eGet fo fa fb)) := by
  refine pe_imp (pe_bmZ PySem.F.slot_dict_get PySem.F.type_dict_get (mt_getZ hu) ho (pa_cons ha (pa_cons hb pa_nil hs2) hs) hbase hfew hline hs hplain) fun σ H Q ⟨W, st, R, h⟩ => ?_
  refine tD_of R (h.then.imp fun x s1 W1 H1 _ R1 X1 h1 v hv => ?_)
  by_cases ed : isDc x = true
  · rw [if_pos ed] at h1
    refine ⟨isDc_at hv ed, tD_of R1 (h1.then.imp fun k s2 W2 H2 _ R2 X2 h2 u hu => tD_of R2 (h2.then.imp fun z s3 W3 H3 _ R3 X3 h3 w hw => ?_))⟩
    cases eo : opGet x k z with
    | none => rw [eo] at h3; exact h3.elim
    | some d =>
      rw [eo] at h3
      exact ⟨W3, x, k, z, d, u, w, rfl, (hv.lat (R1.lat X2)).lat (R2.lat X3), hu.lat (R2.lat X3), hw, eo, R3.fok, fun v' W' H' g q => h3 W' H' (g.rel R3) g.ext v' q⟩
  · rw [if_neg ed] at h1
    exact h1.elim
@[simp] theorem wp_get {C : PyData → Sta → Prop} {st : Sta} : (eGet fo fa fb st).wp C ↔ (fo st).wp fun x s => isDc x = true ∧ (fa s).wp fun k s1 => (fb s1).wp fun z s2 => ∃ d, opGet x k z = some d ∧ C d s2 := by
  unfold eGet
  rw [wp_bind]
  refine ⟨fun h => wp_mono h fun x s z => ?_, fun h => wp_mono h fun x s ⟨e, z⟩ => ?_⟩
  · split at z
    · rename_i e
      refine ⟨e, wp_mono (wp_bind.mp z) fun k s1 z => wp_mono (wp_bind.mp z) fun y s2 z => ?_⟩
      cases eo : opGet x k y with
      | none => rw [eo] at z; exact z.elim
      | some d => rw [eo] at z; exact ⟨d, rfl, z⟩
    · exact z.elim
  · rw [if_pos e]
    refine wp_bind.mpr (wp_mono z fun k s1 z => wp_bind.mpr (wp_mono z fun y s2 ⟨d, eo, z⟩ => ?_))
    rw [eo]
    exact z
/-! ### d[k] -/
def opIxZ : PyData → PyData → Option PyData
  | .dict [(.list [.list kd], .list ds)], k => (tupInts k).bind fun ks => dGet kd ds ks
  | _, _ => none
theorem opIxZ_some {dx dk y : PyData} (h : opIxZ dx dk = some y) : ∃ kd ds ks, dx = dcD kd ds ∧ dk = tupZ ks ∧ dGet kd ds ks = some y := by
  unfold opIxZ at h
  split at h
  · cases e : tupInts dk with
    | none => rw [e] at h; cases h
    | some ks => rw [e] at h; exact ⟨_, _, ks, rfl, tupInts_of e, h⟩
  · cases h
def eIxZ (fa fb : ED) : ED := eOp2 opIxZ fa fb
theorem de_ixZ (hu : X.A.units + 1 < cLine) (ha : PE X e (tD X.K E fa)) (hb : PE X b (tD X.K E fb)) (hs : PlainIx b := by exact fun _ _ => rfl) : PE X (.Subscript e b pos) (tD X.K E (eIxZ fa fb)) := by
  refine ⟨fun pins s σ H Q I h => ?_⟩
  refine subD_of PySem.F.slot_dict_getitem.lookup hs (thn (ha.run pins s σ H _ I (op2_read h)) fun u s1 ⟨x, H1, I1, rx, q1⟩ => thn (hb.run pins s1 σ H1 _ I1 q1) fun iv s2 ⟨y, H2, I2, ry, q2⟩ => ?_)
  obtain ⟨W, dx, dy, d, hx, hy, e, fok, q⟩ := q2
  obtain ⟨kd, ds, ks, rfl, rfl, eg⟩ := opIxZ_some e
  cases hx with
  | @dct a o es vs _ _ ek hd ht hv z hxs =>
    cases rx
    obtain ⟨b, rfl, hb⟩ := tupZ_at hy
    cases ry
    obtain ⟨hD, hsm⟩ := dctH I2 (rawOf I2 hd) ht
    refine ⟨hD.typeIs, ?_⟩
    rcases DRel.get (ks := ks) ⟨ek, ht, vs, hv, hxs⟩ with ⟨_, e2⟩ | ⟨p, d', w, e1, e2, rw1, hw⟩
    · rw [e2] at eg; cases eg
    · rw [e2] at eg
      cases eg
      exact wpAny_getItem_heap (knd := tupleKind (intKind X.prog X.w)) (tupleKind_room_in1 hu) (keyZ I2 hb) hD e1 ⟨w, H2, I2.tok _, rw1, q w W H2 fok.refl hw⟩
@[simp] theorem wp_ixZ {C : PyData → Sta → Prop} {st : Sta} : (eIxZ fa fb st).wp C ↔ (fa st).wp fun x s => (fb s).wp fun y s' => ∃ d, opIxZ x y = some d ∧ C d s' := wp_op2
end
end DL
/-! DQ: dict comprehensions whose keys are tuples of numbers; comprehensions of two fors; items. -/
namespace DL
open PySem PySem.Spec PyProof.Rows L2
/-! ### turns, said once -/
theorem it_loop {K : PySem.W.Frag} {w : Bool} {J : It} {W1 : Wd} {H1 : Hp} {ds : List PyData} (hJ : ItOk K w J W1 H1 ds) {Fin : Hp → Prop} {Body : V → Hp → (Hp → Prop) → Prop} {Wa : Wd} {Ha : Hp} (P : Nat → Wd → Hp → Prop) (h0 : P 0 Wa Ha) (hl : ∀ i Wd H, P i Wd H → Lat W1 H1 Wd H ∧ Fok Wd H)
    (fin : ∀ Wd H, P ds.length Wd H → Fin H) (step : ∀ i d Wd H x W3 H', ds[i]? = some d → P i Wd H → Grow Wd H W3 H' → IsW K W3 H' w x d → Body x H' (fun H => ∃ Wd, P (i + 1) Wd H)) :
    ∃ Z : Nat → Nat → Hp → Prop, (∃ m, Z 0 m Ha) ∧ ∀ i m H, Z i m H → (J.stop i H ∧ Fin H) ∨ (J.go i H ∧ ∃ Nx : Hp → Prop, (∀ H', Nx H' → ∃ m', m' < m ∧ Z (i + 1) m' H') ∧ ∀ x H', J.yld i H x H' → Body x H' Nx) := by
  refine ⟨fun i m H => m = ds.length - i ∧ i ≤ ds.length ∧ ∃ Wd, P i Wd H, ⟨ds.length, by omega, Nat.zero_le _, Wa, h0⟩, ?_⟩
  rintro i m H ⟨rfl, hi, Wd, p⟩
  obtain ⟨l, f⟩ := hl i Wd H p
  obtain ⟨j1, j2⟩ := hJ.2 i Wd H l f
  by_cases hlt : i < ds.length
  · have hd : ds[i]? = some ds[i] := List.getElem?_eq_getElem hlt
    obtain ⟨go, yl⟩ := j1 _ hd
    refine .inr ⟨go, _, fun H' n => ⟨ds.length - (i + 1), by omega, rfl, hlt, n⟩, fun x H' hy => ?_⟩
    obtain ⟨W3, g3, hx⟩ := yl x H' hy
    exact step i _ Wd H x W3 H' hd p g3 hx
  · have e : i = ds.length := by omega
    subst e
    exact .inl ⟨j2 rfl, fin Wd H p⟩
/-- where a block stands: its relation, how far it has gone from its start -/
structure CB (K : PySem.W.Frag) (W1 : Wd) (H1 : Hp) (σ0 : L2.St) (r1 : List Slot) (Wc : Wd) (Hc : Hp) (σ : L2.St) (st : Sta) : Prop where
  R : Rel K Wc Hc σ st
  L : Lat W1 H1 Wc Hc
  X : Ext W1 H1 σ0 r1 Wc Hc σ st.r
section
variable {K : PySem.W.Frag} {E : EX} {W1 Wc W2 : Wd} {H1 Hc H2 : Hp} {σ0 σ σ2 : L2.St} {r1 : List Slot} {st s2 : Sta} {vs : List Nat} {D : Addr}
theorem CB.grow (c : CB K W1 H1 σ0 r1 Wc Hc σ st) (g : Grow Wc Hc W2 H2) : CB K W1 H1 σ0 r1 W2 H2 σ st := ⟨g.rel c.R, c.L.trans g.lat, c.X.trans g.ext⟩
theorem CB.step (c : CB K W1 H1 σ0 r1 Wc Hc σ st) (R : Rel K W2 H2 σ2 s2) (X : Ext Wc Hc σ st.r W2 H2 σ2 s2.r) : CB K W1 H1 σ0 r1 W2 H2 σ2 s2 := ⟨R, c.L.trans (c.R.lat X), c.X.trans X⟩
theorem CB.wiped (c : CB K W1 H1 σ0 r1 Wc Hc σ st) (e : wipe σ vs = σ2) : CB K W1 H1 σ0 r1 Wc Hc σ2 (wipeS vs st) := by
  obtain ⟨a, o⟩ := c.R.wiped vs
  rw [e] at a o
  exact ⟨a, c.L, c.X.f, c.X.fn, c.X.l, c.X.keep, c.X.dom, fun a ha => c.X.on a (o a ha)⟩
theorem wipeR_wipeR (r : List Slot) (vs : List Nat) : wipeR (wipeR r vs) vs = wipeR r vs := by
  refine List.ext_getElem? fun i => ?_
  by_cases hiv : i ∈ vs
  · by_cases hil : i < r.length
    · rw [wipeR_in hiv (by rw [wipeR_len]; exact hil), wipeR_in hiv hil]
    · rw [List.getElem?_eq_none (by rw [wipeR_len, wipeR_len]; omega), List.getElem?_eq_none (by rw [wipeR_len]; omega)]
  · rw [wipeR_out hiv]
/-- a thing that no data stands for is changed -/
theorem Rel.updE {φ : Heap → Prop} {u : HO} (R : Rel K Wc Hc σ st) (h : Hc D = some (.ext φ)) : Rel K Wc (upd Hc D u) σ st ∧ Lat Wc Hc Wc (upd Hc D u) := by
  have ne : ∀ b o, Hc b = some o → (∀ ψ, o ≠ .ext ψ) → b ≠ D := fun b o e q z => by rw [z, h] at e; cases e; exact q _ rfl
  have L0 : Lat Wc Hc Wc (upd Hc D u) := by
    refine ⟨fun _ h => h, fun _ _ h => h, fun b o f e => ?_, fun b xs e => ?_, fun b o v e _ => ?_⟩
    · obtain ⟨xs, q⟩ := R.fok b f
      rw [upd_ne (ne b _ q fun _ z => nomatch z)]
      exact e
    · rw [upd_ne (ne b _ e fun _ z => nomatch z)]; exact e
    · rw [upd_ne (ne b _ e fun _ z => nomatch z)]; exact e
  refine ⟨⟨fun i d hi => ?_, fun i l hi => ?_, R.dj, R.len, R.sl, R.nd, fun n b o hb ho => ?_, fun b hb => ?_, R.lf⟩, L0⟩
  · obtain ⟨v, q, w⟩ := R.val i d hi
    exact ⟨v, q, w.lat L0⟩
  · obtain ⟨a, zs, q1, q2, q3, q4⟩ := R.own i l hi
    exact ⟨a, zs, q1, by rw [upd_ne (ne a _ q2 fun _ z => nomatch z)]; exact q2, q3.lat L0, q4⟩
  · have q := R.sto n b o hb ho
    cases o with
    | lst m =>
      obtain ⟨zs, q1, q2, q3⟩ := q
      exact ⟨zs, by rw [upd_ne (ne b _ q1 fun _ z => nomatch z)]; exact q1, q2.lat L0, q3⟩
  · obtain ⟨zs, q⟩ := R.fok b hb
    exact ⟨zs, by rw [upd_ne (ne b _ q fun _ z => nomatch z)]; exact q⟩
theorem CB.updE {φ : Heap → Prop} {u : HO} (c : CB K W1 H1 σ0 r1 Wc Hc σ st) (h : Hc D = some (.ext φ)) (hD : H1 D = none) : CB K W1 H1 σ0 r1 Wc (upd Hc D u) σ st :=
  let ⟨a, b⟩ := c.R.updE (u := u) h
  ⟨a, c.L.trans b, c.X.updNew hD⟩
end
/-! ### the machine's side of a dict comprehension -/
theorem dRaw_new (h : Heap) (hb : sysModules < h.objs.size) : DRaw h.objs.size [] (h.push { cls := .type "dict", data := .dict #[] }) :=
  ⟨_, _, _, Heap.get?_push_size _ rfl, ⟨rfl, rfl, rfl⟩, rfl, rfl, List.nodup_nil, by rw [beq_eq_false_iff_ne]; exact Nat.ne_of_gt hb⟩
theorem dRaw_stay {a : Addr} {xs : XE} : ∀ h1 h2 : Heap, DRaw a xs h1 → (∀ o, h1.get? a = some o → h2.get? a = some o) → DRaw a xs h2 := fun h1 h2 ⟨o, es, ep, e, r⟩ k => ⟨o, es, ep, k o e, r⟩
theorem ok_dRaw {P : Program} {w : World} {H : Hp} {h : Heap} {a : Addr} {xs : XE} (e : DRaw a xs h) : ObjOk P w H h a (.ext (DRaw a xs)) := ⟨e, let ⟨o, _, _, q, _⟩ := e; ⟨o, q⟩, dRaw_stay⟩
section
variable {X : Cx}
/-- D[k] = v amid a comprehension -/
theorem dSetZ {pins : List (Addr × Obj)} {σ : L2.St} {H : Hp} {s : Shared} {E : Value → Shared → Prop} {D b : Addr} {es : XE} {ks : List Int} {r : Value} {Q : Unit → Shared → Prop} (hu : X.A.units < cLine) (I : Inv X pins σ H s) (hD : H D = some (.ext (DRaw D es))) (hz : es.length < sizeLine)
    (hk : ∀ x ∈ es, TupK H x.2.1 x.1) (hb : TupK H b ks) (h : ∀ s', Inv X pins σ (upd H D (.ext (DRaw D (storedH es ks b r)))) s' → Q () s') : wpAny (model X.prog X.w) X.A (dictSet D (.ref b) r) Q E s := by
  obtain ⟨raw, _, _⟩ := I.hok D _ hD
  obtain ⟨hm, hs⟩ := dctH I raw hk
  refine wpAny_dictSet_heap (knd := tupleKind (intKind X.prog X.w)) (hsz := Nat.le_of_lt hz) hu (keyZ I hb) hm fun h' hm' sb => h _ ?_
  obtain ⟨o, ees, ep, ho, hx, hd, he, _, hn⟩ := hm'
  have raw' : DRaw D (storedH es ks b r) h' := ⟨o, ees, ep, ho, hx, hd, he, hn, hs⟩
  exact d_write I (by rw [hD]; exact True.intro) sb ⟨o, ho⟩ (ok_dRaw raw')
def tDz (wi : TI) (g : TG) (tt : TT) (tk tv : TE) (vs : List Nat) : TE := fun σ H Q => wi σ H fun J H1 => ∀ D, H1 D = none → ∃ Z : Nat → Nat → Hp → Prop, (∃ m, Z 0 m (upd H1 D (.ext (DRaw D [])))) ∧ ∀ i m H, Z i m H →
  (J.stop i H ∧ ∃ es, H D = some (.ext (DRaw D es)) ∧ ∀ o, Q (.ref D) (upd H D (.frz o (.ext (DRaw D es))))) ∨ (J.go i H ∧ ∃ Nx : Hp → Prop, (∀ H', Nx H' → ∃ m', m' < m ∧ Z (i + 1) m' H') ∧ ∀ x H', J.yld i H x H' → g x (wipe σ vs) H' fun σ2 H2 => wipe σ2 vs = wipe σ vs ∧ tt σ2 H2 fun t H3 =>
    if t = true then tk σ2 H3 fun y H4 => tv σ2 H4 fun z H5 => ∃ es b ks, y = .ref b ∧ TupK H5 b ks ∧ H5 D = some (.ext (DRaw D es)) ∧ (∀ x ∈ es, TupK H5 x.2.1 x.1) ∧ es.length < sizeLine ∧ ∀ u, RelV z u → Nx (upd H5 D (.ext (DRaw D (storedH es ks b u)))) else Nx H3)
theorem dz_core {pins : List (Addr × Obj)} {s : Shared} {σ : L2.St} {H : Hp} {Q : VK} {kx vx tg iter : Expr} {ifs : List Expr} {scope : Scope} {own : List (Str × Nat)} {pos pos' : Pos} {wi : TI} {g : TG} {tt : TT} {tk tv : TE} {use : Option (Value → Sem Unit)} {Qf : Value → Shared → Prop}
    (hcalm : X.calm = true) (hnd : X.N.Nodup) (hu : X.A.units < cLine) (I0 : Inv X pins σ H s) (hit : PI X tg iter wi) (blk : BlkOk X.N X.env.scope scope own)
    (hg : ∀ (s : Shared) (H : Hp) (C : Addr) (cl : List (Str × Addr)) (fp : List Addr), PG (X.blk s H scope (compEnvC scope cl C X.env) fp) tg g)
    (ht : ∀ (s : Shared) (H : Hp) (C : Addr) (cl : List (Str × Addr)) (fp : List Addr), PTs (X.blk s H scope (compEnvC scope cl C X.env) fp) ifs tt)
    (hk : ∀ (s : Shared) (H : Hp) (C : Addr) (cl : List (Str × Addr)) (fp : List Addr), PE (X.blk s H scope (compEnvC scope cl C X.env) fp) kx tk)
    (he : ∀ (s : Shared) (H : Hp) (C : Addr) (cl : List (Str × Addr)) (fp : List Addr), PE (X.blk s H scope (compEnvC scope cl C X.env) fp) vx tv)
    (hfold : ∀ x, foldedSetIterable iter X.env x = pure x) (h : tDz wi g tt tk tv (own.map (·.2)) σ H Q)
    (after : ∀ D C s' m H', Inv X pins σ H' s' → Q (.ref D) H' → s'.heap.Ns C m → FpOk X pins H' C → compPost (model X.prog X.w) X.A X.xe use Qf (.ref D) C (.ok .next) s') :
    wpAny (model X.prog X.w) X.A (comprehension (.DictComp kx vx [⟨tg, iter, ifs, 0⟩] scope pos) scope X.env pos' newDict false (eval iter X.env) use) Qf X.xe s := by
  have frees : ∀ y ∈ scope.names, y.2 = .free → ∃ c, X.env.cells.lookup y.1 = some c := fun y hy e => (blk.free y hy e).elim (fun k => I0.ok.has _ (.inl k)) fun k => I0.ok.has _ (.inr k)
  refine wpAny_comprehension_free (use := use) rfl hfold (closure_ok frees) blk.kind (fun y hy e => by rw [blk.uniq y hy, e]) (thn (hit.run pins s σ H _ I0 h) fun _ sa ha => thn ha fun _ sb hb => ?_)
  obtain ⟨it, fp, tn, J, Hb, rfl, Ib, T, tb, fb, q⟩ := hb
  refine wpAny_newObj_type (newEnv_comp ?_)
  generalize eD : sb.heap.objs.size = D
  have nD : Hb D = none := Ib.hok.fresh (Nat.le_of_eq eD)
  obtain ⟨Z, ⟨m0, z0⟩, turn⟩ := q D nD
  generalize eC : ({ sb with heap := sb.heap.push { cls := .type "dict", data := .dict #[] } } : Shared) = sc
  have Ic : Inv X pins σ (upd Hb D (.ext (DRaw D []))) sc := by
    subst eC
    refine Ib.laid (t' := sb.toks) (fun b o e => Heap.get?_push_of_some _ e) (Nat.le_of_eq eD) ?_
    subst eD
    exact ok_dRaw (dRaw_new sb.heap Ib.big)
  have hc3 : sc.heap = sb.heap.push { cls := .type "dict", data := .dict #[] } := by rw [← eC]
  have low : ∀ b ∈ fp, b < sb.heap.objs.size := fun b hb => let ⟨o, e, _⟩ := T.obj _ _ tb b hb; Heap.lt_size e
  have fc : ∀ b ∈ fp, FpOk X pins (upd Hb D (.ext (DRaw D []))) b ∧ b < sc.heap.objs.size := fun b hb => by
    have lt := low b hb
    refine ⟨⟨?_, (fb b hb).2⟩, by rw [hc3, Heap.size_push]; exact Nat.lt_succ_of_lt lt⟩
    rw [upd_ne (by rw [← eD]; exact Nat.ne_of_lt lt)]
    exact (fb b hb).1
  have tc : tn 0 sc.heap := T.keep _ _ _ tb fun b _ o e => by rw [hc3]; exact Heap.get?_push_of_some _ e
  have Id := block_start Ic blk hnd fc
  have pg := hg sc (upd Hb D (.ext (DRaw D []))) sc.heap.objs.size (cellsFrom (sc.heap.objs.size + 1) scope.names (cloFrom X.env.cells scope.names [])) fp
  have pt := ht sc (upd Hb D (.ext (DRaw D []))) sc.heap.objs.size (cellsFrom (sc.heap.objs.size + 1) scope.names (cloFrom X.env.cells scope.names [])) fp
  have pk := hk sc (upd Hb D (.ext (DRaw D []))) sc.heap.objs.size (cellsFrom (sc.heap.objs.size + 1) scope.names (cloFrom X.env.cells scope.names [])) fp
  have pv := he sc (upd Hb D (.ext (DRaw D []))) sc.heap.objs.size (cellsFrom (sc.heap.objs.size + 1) scope.names (cloFrom X.env.cells scope.names [])) fp
  show codeAny _ _ (.compStart (.DictComp kx vx [⟨tg, iter, ifs, 0⟩] scope pos) 0 (.ref it) (.ref D) (compEnvC scope (cellsFrom (sc.heap.objs.size + 1) scope.names (cloFrom X.env.cells scope.names [])) sc.heap.objs.size X.env)) (compPost (model X.prog X.w) X.A X.xe use Qf (.ref D) sc.heap.objs.size) { sc with heap := pushCells (sc.heap.push { cls := .type "dict", data := .dict #[] }) scope.names }
  have nfc : ∀ b ∈ fp, (upd Hb D (.ext (DRaw D []))) b = none := fun b hb => (fc b hb).1.1
  generalize eE : compEnvC scope (cellsFrom (sc.heap.objs.size + 1) scope.names (cloFrom X.env.cells scope.names [])) sc.heap.objs.size X.env = cenv at Id pg pt pk pv ⊢
  have locE : cenv.locals = sc.heap.objs.size := by subst eE; rfl
  generalize eH : upd Hb D (.ext (DRaw D [])) = Hc at Ic Id pg pt pk pv z0 nfc fc
  generalize eS : ({ sc with heap := pushCells (sc.heap.push { cls := .type "dict", data := .dict #[] }) scope.names } : Shared) = sd at Id ⊢
  have td : tn 0 sd.heap := T.keep _ _ _ tc fun b _ o e => by rw [← eS]; exact pushCells_keeps _ _ _ _ (Heap.get?_push_of_some _ e)
  have foot : ∀ {σ' : L2.St} {H' : Hp} {s' : Shared}, Inv (X.blk sc Hc scope cenv fp) [] σ' H' s' → (∀ b ∈ fp, H' b = none) → ∀ b ∈ fp, FpOk (X.blk sc Hc scope cenv fp) [] H' b := fun {σ' H' s'} I' hn b hb =>
    ⟨hn b hb, (I'.ok.exf b hb).1, I'.ok.exfs b hb, .inl hb, fun x c e => (I'.ok.exf b hb).2 x c e, fun p hp => absurd (show p ∈ ([] : List (Addr × Obj)) ++ [] from hp) (by simp)⟩
  have loop : codeAny (model X.prog X.w) X.A (.compLoop (.DictComp kx vx [⟨tg, iter, ifs, 0⟩] scope pos) 0 (.ref it) (.ref D) cenv) (compPost (model X.prog X.w) X.A X.xe use Qf (.ref D) sc.heap.objs.size) sd := by
    refine compLoop_anyD (fun n s' => ∃ i H', Inv (X.blk sc Hc scope cenv fp) [] (wipe σ (own.map (·.2))) H' s' ∧ tn i s'.heap ∧ (∀ b ∈ fp, H' b = none) ∧ Z i n H') ?_ m0 ⟨0, Hc, Id, td, nfc, z0⟩
    rintro n se ⟨i, He, Ie, te, ne, ze⟩
    rcases turn i n He ze with ⟨stop, es, eDs, qq⟩ | ⟨go, Nx, hNx, body⟩
    · refine thnF (T.done (X.blk sc Hc scope cenv fp) rfl rfl rfl hcalm i [] se _ He (fun _ _ => False) Ie (foot Ie ne) te stop) fun r sf ⟨hr, If⟩ => ?_
      subst hr
      have Ig : Inv X pins σ He sf := Ic.call' (ch := fp) If.os If.base If.hok If.bare fun b hb => ⟨(fc b hb).1.2.2.2.1, (fc b hb).1.2.1, (fc b hb).1.2.2.2.2.1, (fc b hb).1.2.2.2.2.2⟩
      obtain ⟨od, Il⟩ := Ig.lock eDs True.intro
      have nC : He sc.heap.objs.size = none := by
        have z : He cenv.locals = none := If.free
        rw [locE] at z
        exact z
      have neD : sc.heap.objs.size ≠ D := fun z => by rw [z, eDs] at nC; cases nC
      obtain ⟨m, hn, _⟩ := If.loc
      have hn : sf.heap.Ns cenv.locals m := hn
      rw [locE] at hn
      exact after D sc.heap.objs.size sf m _ Il (qq od) hn (Ic.fpOk (Nat.le_refl _) (by rw [upd_ne neD]; exact nC))
    · refine thnF (T.item (X.blk sc Hc scope cenv fp) rfl rfl rfl hcalm i [] se _ He (fun _ _ => False) Ie (foot Ie ne) te go) fun r sf ⟨u, hr, hf⟩ => ?_
      subst hr
      refine thnF hf fun _ sg ⟨x, Hg, Ig, rg, yg, tg', ng⟩ => ?_
      have Ip := Ig.pinned (foot Ig ng) (T.obj _ _ tg')
      refine thnF (pg.run _ sg _ Hg x u _ Ip rg (body x Hg yg)) fun _ sh ⟨σh, Hh, Ih, wh, qh⟩ => ?_
      refine thnF (pt.run _ sh σh Hh _ Ih qh) fun t si ⟨Hi, Ii, qi⟩ => ?_
      have fin : ∀ {s' : Shared} {H' : Hp}, Inv (X.blk sc Hc scope cenv fp) ([] ++ pinsAt fp sg.heap) σh H' s' → Nx H' → ∃ m, m < n ∧ ∃ i H', Inv (X.blk sc Hc scope cenv fp) [] (wipe σ (own.map (·.2))) H' s' ∧ tn i s'.heap ∧ (∀ b ∈ fp, H' b = none) ∧ Z i m H' := fun {s' H'} I' nx => by
        obtain ⟨m', hm, z'⟩ := hNx H' nx
        have kept : ∀ b ∈ fp, ∀ o, sg.heap.get? b = some o → s'.heap.get? b = some o ∧ H' b = none := fun b hb o e =>
          let z := I'.pin (b, o) (List.mem_append_right _ (List.mem_append_right _ (mem_pinsAt hb e)))
          ⟨z.1, z.2.1⟩
        have lw : (wipe σ (own.map (·.2))).length = σh.length := by rw [← wh, wipe_length]
        refine ⟨m', hm, i + 1, H', (I'.unpinned (pins := [])).weak lw (fun j v e => ?_), T.keep _ _ _ tg' fun b hb o e => (kept b hb o e).1, fun b hb => ?_, z'⟩
        · rw [← wh] at e
          exact (wipe_some e).1
        · obtain ⟨o, e, _⟩ := T.obj _ _ tg' b hb
          exact (kept b hb o e).2
      cases t with
      | false =>
        rw [if_neg Bool.false_ne_true] at qi ⊢
        exact fin Ii qi
      | true =>
        rw [if_pos rfl] at qi ⊢
        refine thnF (pk.run _ si σh Hi _ Ii qi) fun kv sj ⟨y, Hj, Ij, rj, qj⟩ => ?_
        refine thnF (pv.run _ sj σh Hj _ Ij qj) fun vv sk ⟨z, Hk, Ik, rk, es, b, ks, ey, hb, hDk, hks, hz, nx⟩ => ?_
        subst ey
        cases rj
        exact dSetZ (X := X.blk sc Hc scope cenv fp) hu Ik hDk hz hks hb fun sl Il => fin Il (nx vv rk)
  exact codeAny_compStart_dict loop (T.self X.A 0 _ _ _ td loop)
theorem pe_dz {kx vx tg iter : Expr} {ifs : List Expr} {scope : Scope} {own : List (Str × Nat)} {pos : Pos} {wi : TI} {g : TG} {tt : TT} {tk tv : TE} (hcalm : X.calm = true) (hnd : X.N.Nodup) (hu : X.A.units < cLine) (hit : PI X tg iter wi) (blk : BlkOk X.N X.env.scope scope own)
    (hg : ∀ (s : Shared) (H : Hp) (C : Addr) (cl : List (Str × Addr)) (fp : List Addr), PG (X.blk s H scope (compEnvC scope cl C X.env) fp) tg g)
    (ht : ∀ (s : Shared) (H : Hp) (C : Addr) (cl : List (Str × Addr)) (fp : List Addr), PTs (X.blk s H scope (compEnvC scope cl C X.env) fp) ifs tt)
    (hk : ∀ (s : Shared) (H : Hp) (C : Addr) (cl : List (Str × Addr)) (fp : List Addr), PE (X.blk s H scope (compEnvC scope cl C X.env) fp) kx tk)
    (he : ∀ (s : Shared) (H : Hp) (C : Addr) (cl : List (Str × Addr)) (fp : List Addr), PE (X.blk s H scope (compEnvC scope cl C X.env) fp) vx tv)
    (hfold : ∀ x, foldedSetIterable iter X.env x = pure x := by intro _; rfl) : PE X (.DictComp kx vx [⟨tg, iter, ifs, 0⟩] scope pos) (tDz wi g tt tk tv (own.map (·.2))) := by
  refine ⟨fun pins s σ H Q I h => ?_⟩
  rw [arm_eval_DictComp]
  refine dz_core hcalm hnd hu I hit blk hg ht hk he hfold h fun D C s' m H' I' q hn f => ⟨m, hn, fun h'' sb => ?_⟩
  obtain ⟨f0, f1, f2, f3, f4, f5⟩ := f
  exact ⟨.ref D, H', I'.turned (t' := s'.toks) (fun b o hb e => (sb.2 b hb).trans e) f0 f1 f3 f4 f5, rfl, q⟩
end
end DL
/-! DR: dict comprehensions by data; items. -/
namespace DL
open PySem PySem.Spec PyProof.Rows L2
def dcL (g : TGT) (tt : ET) (tk tv : ED) (vs : List Nat) : List PyData → List PyData × List PyData → Sta → Rs (List PyData × List PyData)
  | [], acc, st => .ok acc st
  | d :: ds, acc, st => match g d st with
    | none => .bad
    | some s1 => (tt s1).nox.bind fun b s2 => if b = true then (tk s2).nox.bind fun k s3 => (tv s3).nox.bind fun v s4 => match tupInts k with
        | some ks => dcL g tt tk tv vs ds (dPut acc.1 acc.2 k ks v) (wipeS vs s4)
        | none => .bad
      else dcL g tt tk tv vs ds acc (wipeS vs s2)
/-- {k: v for x in xs if t} -/
def eDc (f : EL) (g : TGT) (tt : ET) (tk tv : ED) (vs : List Nat) : ED := fun st => (f st).bind fun ds s1 => (dcL g tt tk tv vs ds ([], []) (wipeS vs s1)).bind fun acc s2 => .ok (dcD acc.1 acc.2) { s2 with r := backR s1.r s2.r vs }
theorem nox_ok {α : Type} {x : Rs α} {a : α} {s : Sta} (h : x.nox = .ok a s) : x = .ok a s := by cases x <;> simp_all [Rs.nox]
theorem nox_noex {α : Type} {x : Rs α} {c : Nat} {s : Sta} : x.nox ≠ .ex c s := by cases x <;> simp [Rs.nox]
theorem dcL_noex {g : TGT} {tt : ET} {tk tv : ED} {vs : List Nat} : ∀ {ds : List PyData} {acc : List PyData × List PyData} {st : Sta} {c : Nat} {s2 : Sta}, dcL g tt tk tv vs ds acc st ≠ .ex c s2
  | [], acc, st, c, s2, h => by cases h
  | d :: ds, acc, st, c, s2, h => by
    unfold dcL at h
    split at h
    · cases h
    · rename_i s1 _
      cases e1 : (tt s1).nox with
      | bad => rw [e1] at h; cases h
      | ex c' s' => exact nox_noex e1
      | ok b s3 =>
        rw [e1] at h
        simp only [Rs.bind_ok] at h
        split at h
        · cases e2 : (tk s3).nox with
          | bad => rw [e2] at h; cases h
          | ex c' s' => exact nox_noex e2
          | ok k s4 =>
            rw [e2] at h
            simp only [Rs.bind_ok] at h
            cases e3 : (tv s4).nox with
            | bad => rw [e3] at h; cases h
            | ex c' s' => exact nox_noex e3
            | ok v s5 =>
              rw [e3] at h
              simp only [Rs.bind_ok] at h
              split at h
              · exact dcL_noex h
              · cases h
        · exact dcL_noex h
theorem stored_nodup {xs : XE} {ks : List Int} {b : Addr} {u : Value} (h : (xs.map (·.1)).Nodup) : ((storedH xs ks b u).map (·.1)).Nodup := by
  unfold storedH
  split
  · rw [keys_map_putAt]; exact h
  · rename_i q
    rw [List.map_append, List.nodup_append]
    refine ⟨h, by simp, fun x hx y hy e => ?_⟩
    subst e
    have ey : x = ks := by simpa using hy
    subst ey
    obtain ⟨p, hp, e⟩ := List.mem_map.mp hx
    have : (atKey xs x).isSome = true := by
      unfold atKey
      rw [Option.isSome_map, List.find?_isSome]
      exact ⟨p, hp, by simpa using e⟩
    exact q this
theorem stored_len {xs : XE} {ks : List Int} {b : Addr} {u : Value} : (storedH xs ks b u).length ≤ xs.length + 1 := by
  unfold storedH
  split
  · rw [List.length_map]; omega
  · simp
/-- readings by what is known of their ends -/
theorem Res.ofOk {K : PySem.W.Frag} {E : EX} {σ : L2.St} {W : Wd} {H : Hp} {r : List Slot} {α : Type} {x : Rs α} {a : α} {s : Sta} {C : α → Sta → Wd → Hp → Prop} (e : x = .ok a s) (h : ∀ W' H', Rel K W' H' σ s → Ext W H σ r W' H' σ s.r → C a s W' H') : Res K E σ W H r x C := by
  subst e
  exact h
theorem dc_read {K : PySem.W.Frag} {E : EX} {w : Bool} {is vs : List Nat} {f : EL} {g : TGT} {tt : ET} {tk tv : ED} (hv : ∀ i ∈ is, i ∈ vs) {σ : L2.St} {H : Hp} {Q : VK} (h : tD K E (eDc f g tt tk tv vs) σ H Q) :
    tDz (tI K E w f) (tG K w is g) (tT K E0 tt) (tD K E0 tk) (tD K E0 tv) vs σ H Q := by
  obtain ⟨W, st, R, h⟩ := h
  refine ⟨W, st, R, ?_⟩
  unfold eDc at h
  refine h.then.imp fun ds s1 W1 H1 ef R1 X1 h1 => ?_
  intro J J0 D hD
  obtain ⟨Rw, ow⟩ := R1.wiped vs
  cases eL : dcL g tt tk tv vs ds ([], []) (wipeS vs s1) with
  | bad => rw [eL] at h1; exact h1.elim
  | ex c s2 => exact (dcL_noex eL).elim
  | ok accF stF =>
    rw [eL] at h1
    simp only [Rs.bind_ok] at h1
    have g0 := Fok.new (p := D) (o := .ext (DRaw D [])) Rw.fok hD
    have c0 : CB K W1 H1 (wipe σ vs) (wipeR s1.r vs) W1 (upd H1 D (.ext (DRaw D []))) (wipe σ vs) (wipeS vs s1) := ⟨g0.rel Rw, g0.lat, Ext.updNew .refl hD⟩
    refine it_loop J0 (fun i Wd Hi => ∃ s2 es acc, CB K W1 H1 (wipe σ vs) (wipeR s1.r vs) Wd Hi (wipe σ vs) s2 ∧ Hi D = some (.ext (DRaw D es)) ∧ DRel K Wd Hi es acc.1 acc.2 ∧ (es.map (·.1)).Nodup ∧ es.length ≤ i ∧ dcL g tt tk tv vs (ds.drop i) acc s2 = .ok accF stF)
      ⟨wipeS vs s1, [], ([], []), c0, upd_same, .nil, List.nodup_nil, Nat.le_refl _, eL⟩ (fun i Wd Hi ⟨_, _, _, c, _⟩ => ⟨c.L, c.R.fok⟩) (fun Wd Hi ⟨s2, es, acc, c, eD, dr, nd, le, e⟩ => ?_) fun i d Wd Hi x W3 H' hd ⟨s2, es, acc, c, eD, dr, nd, le, e⟩ g3 hx => ?_
    · rw [List.drop_length] at e
      unfold dcL at e
      cases e
      refine ⟨es, eD, fun o => ?_⟩
      have c2 := c.updE (u := .frz o (.ext (DRaw D es))) eD hD
      obtain ⟨Rb, Xb⟩ := R1.backed c2.R c2.X
      obtain ⟨d1, d2, ws, d3, d4⟩ := dr.lat (c.R.updE (u := .frz o (.ext (DRaw D es))) eD).2
      have le2 : accF.2.length ≤ sizeLine := by
        rw [dr.len.1]
        exact Nat.le_trans le J0.1
      exact h1 _ _ Rb Xb _ (.dct d1 upd_same d2 d3 le2 d4)
    · have hlt : i < ds.length := (List.getElem?_eq_some_iff.mp hd).1
      rw [List.drop_eq_getElem_cons hlt] at e
      rw [List.getElem?_eq_getElem hlt] at hd
      cases hd
      unfold dcL at e
      cases eg : g ds[i] s2 with
      | none => rw [eg] at e; cases e
      | some s3 =>
        rw [eg] at e
        dsimp only at e
        refine ⟨W3, s2, ds[i], s3, g3.rel c.R, hx, eg, fun σ3 o3 R3 X3 => ⟨(wipe_off o3 hv).trans wipe_wipe, ?_⟩⟩
        have wq : wipe σ3 vs = wipe σ vs := (wipe_off o3 hv).trans wipe_wipe
        have c3 := (c.grow g3).step R3 X3
        have eD3 : H' D = some (.ext (DRaw D es)) := g3.h _ _ eD
        have dr3 := dr.lat g3.lat
        -- D stays as it is through an evaluation
        have stayD : ∀ {Wa Ha sa Wb Hb sb}, Rel K Wa Ha σ3 sa → Ext Wa Ha σ3 sa.r Wb Hb σ3 sb → Ha D = some (.ext (DRaw D es)) → Hb D = some (.ext (DRaw D es)) := fun {Wa Ha sa Wb Hb sb} Ra Xa ea =>
          Xa.keep D _ ea (Ra.notL fun xs q => by rw [ea] at q; cases q) (Ra.notOwn fun xs q => by rw [ea] at q; cases q)
        cases et : (tt s3).nox with
        | bad => rw [et] at e; cases e
        | ex c' s' => exact (nox_noex et).elim
        | ok b s4 =>
          rw [et] at e
          simp only [Rs.bind_ok] at e
          refine tT_of R3 (Res.ofOk (nox_ok et) fun W4 H4 R4 X4 => ?_)
          have c4 := c3.step R4 X4
          have eD4 := stayD R3 X4 eD3
          have dr4 := dr3.lat (R3.lat X4)
          cases b with
          | false =>
            rw [if_neg Bool.false_ne_true] at e ⊢
            exact ⟨W4, wipeS vs s4, es, acc, c4.wiped wq, eD4, dr4, nd, by omega, e⟩
          | true =>
            rw [if_pos rfl] at e ⊢
            cases ek : (tk s4).nox with
            | bad => rw [ek] at e; cases e
            | ex c' s' => exact (nox_noex ek).elim
            | ok k s5 =>
              rw [ek] at e
              simp only [Rs.bind_ok] at e
              refine tD_of R4 (Res.ofOk (nox_ok ek) fun W5 H5 R5 X5 y hy => ?_)
              have c5 := c4.step R5 X5
              have eD5 := stayD R4 X5 eD4
              have dr5 := dr4.lat (R4.lat X5)
              cases ev : (tv s5).nox with
              | bad => rw [ev] at e; cases e
              | ex c' s' => exact (nox_noex ev).elim
              | ok z s6 =>
                rw [ev] at e
                simp only [Rs.bind_ok] at e
                refine tD_of R5 (Res.ofOk (nox_ok ev) fun W6 H6 R6 X6 y2 hy2 => ?_)
                have c6 := c5.step R6 X6
                have eD6 := stayD R5 X6 eD5
                have dr6 := dr5.lat (R5.lat X6)
                cases ei : tupInts k with
                | none => rw [ei] at e; cases e
                | some ks =>
                  rw [ei] at e
                  dsimp only at e
                  obtain ⟨b, rfl, hb⟩ := tupZ_at (by rw [← tupInts_of ei]; exact hy.lat (R5.lat X6))
                  refine ⟨es, b, ks, rfl, hb, eD6, dr6.2.1, by have := J0.1; omega, fun u ru => ?_⟩
                  have lu := (c6.R.updE (u := .ext (DRaw D (storedH es ks b u))) eD6).2
                  refine ⟨W6, wipeS vs s6, storedH es ks b u, dPut acc.1 acc.2 k ks z, (c6.updE eD6 hD).wiped wq, upd_same, (dr6.put nd (tupInts_of ei) hb ru hy2).lat lu, stored_nodup nd, ?_, e⟩
                  have := stored_len (xs := es) (ks := ks) (b := b) (u := u)
                  omega
section
variable {X : Cx} {E : EX} {w : Bool} {is : List Nat} {own : List (Str × Nat)} {f : EL} {g : TGT} {tt : ET} {tk tv : ED} {kx vx tg iter : Expr} {ifs : List Expr} {scope : Scope} {pos : Pos}
theorem de_dc (hc : X.calm = true) (hN : X.N.Nodup) (hu : X.A.units < cLine) (hi : PI X tg iter (tI X.K E w f)) (ok : BlkOk X.N X.env.scope scope own) (hv : ∀ i ∈ is, i ∈ own.map (·.2))
    (hg : ∀ (s : Shared) (H : Hp) (C : Addr) (cl : List (Str × Addr)) (fp : List Addr), PG (X.blk s H scope (compEnvC scope cl C X.env) fp) tg (tG X.K w is g))
    (ht : ∀ (s : Shared) (H : Hp) (C : Addr) (cl : List (Str × Addr)) (fp : List Addr), PTs (X.blk s H scope (compEnvC scope cl C X.env) fp) ifs (tT X.K E0 tt))
    (hk : ∀ (s : Shared) (H : Hp) (C : Addr) (cl : List (Str × Addr)) (fp : List Addr), PE (X.blk s H scope (compEnvC scope cl C X.env) fp) kx (tD X.K E0 tk))
    (he : ∀ (s : Shared) (H : Hp) (C : Addr) (cl : List (Str × Addr)) (fp : List Addr), PE (X.blk s H scope (compEnvC scope cl C X.env) fp) vx (tD X.K E0 tv))
    (hs : ∀ x, foldedSetIterable iter X.env x = pure x := by intro _; rfl) : PE X (.DictComp kx vx [⟨tg, iter, ifs, 0⟩] scope pos) (tD X.K E (eDc f g tt tk tv (own.map (·.2)))) :=
  pe_imp (pe_dz hc hN hu hi ok hg ht hk he hs) fun σ H Q h => dc_read hv h
end
end DL
/-! DS: for k, v in d.items(); what dict comprehensions compute. -/
namespace DL
open PySem PySem.Spec PyProof.Rows L2
def Itz (d : Addr) (o : Obj) (xs : XE) (vs : List V) : It :=
  ⟨fun i H => H d = some (.frz o (.ext (DRaw d xs))) ∧ i < xs.length, fun i H x H' => ∃ T e v, xs[i]? = some e ∧ vs[i]? = some v ∧ x = .ref T ∧ H T = none ∧ H' = upd H T (.tup [.ref e.2.1, v]), fun i H => H d = some (.frz o (.ext (DRaw d xs))) ∧ xs.length ≤ i⟩
theorem pairAt {α β : Type} {G : α → β → Prop} : ∀ {l : List α} {m : List β} {i : Nat} {b : β}, Paired G l m → m[i]? = some b → ∃ a, l[i]? = some a ∧ G a b
  | _, _, _, _, .nil, e => by simp at e
  | _, _, 0, _, .cons r _, e => by simp at e; subst e; exact ⟨_, rfl, r⟩
  | _, _, i + 1, b, .cons _ t, e => by
    obtain ⟨a, h1, h2⟩ := pairAt (i := i) (b := b) t (by simpa using e)
    exact ⟨a, by simpa using h1, h2⟩
theorem turn_z {P : Program} {w : World} {K : PySem.W.Frag} {elts : List Expr} {kk : Nat} {tpos : Pos} {d it : Addr} {o : Obj} {xs : XE} {vs : List V} {es : Array DictEntry} {ep : Nat} (hod : o.data = .dict es ep) (hes : es.toList = xs.map dEnt) (hx : o.ExactDict) (hv : Paired (fun v (x : List Int × Addr × Value) => RelV v x.2.2) vs xs) :
    Turn P w K (.Tuple elts kk tpos) (Itz d o xs vs) [it] it (fun i h => ∃ ok ov, IsItemIter h it d i es.size ep ok ov) where
  mem := List.mem_singleton.mpr rfl
  obj := fun i h st b hb => by
    obtain rfl := List.mem_singleton.mp hb
    obtain ⟨ok, ov, e⟩ := st
    exact ⟨_, e, fun v z => nomatch z⟩
  keep := fun i h h' ⟨ok, ov, e⟩ k => ⟨ok, ov, k it (List.mem_singleton.mpr rfl) _ e⟩
  item := by
    intro X hP hw hK hc i pins s σ H E I hf ⟨ok, ov, he⟩ ⟨hd, hi⟩
    subst hP hw hK
    have hsz : es.size = xs.length := by rw [← Array.length_toList, hes, List.length_map]
    have raw : DT.Raw s.heap d es ep := ⟨o, (dctO I hd).1, hx, hod⟩
    have hie : i < es.size := by omega
    have hlt : it < s.heap.objs.size := Heap.lt_size he
    have hxi : xs[i]? = some xs[i] := List.getElem?_eq_getElem hi
    generalize xs[i] = e at hxi
    have hei : es[i] = dEnt e := by
      have q : es.toList[i]? = some (dEnt e) := by rw [hes, List.getElem?_map, hxi]; rfl
      rw [Array.getElem?_toList, Array.getElem?_eq_getElem hie] at q
      exact Option.some.inj q
    obtain ⟨v, hvi, rv⟩ := pairAt hv hxi
    refine DT.nextI he raw hie fun h' ho hT hz hk => ?_
    rw [hei] at ho hT
    refine ⟨_, rfl, wpAny_letOwnedTupleGo_items (s := { s with heap := h' }) ho fun h'' he' sb => ?_⟩
    have hT2 : h''.get? s.heap.objs.size = some { cls := .type "tuple", data := .seq #[(dEnt e).key, (dEnt e).val] } := (sb.2 _ (Nat.ne_of_gt hlt)).trans hT
    have new : ObjOk X.prog X.w (upd H s.heap.objs.size (.tup [.ref e.2.1, v])) h'' s.heap.objs.size (.tup [.ref e.2.1, v]) :=
      ⟨by show 2 ≤ sizeLine; decide, [(dEnt e).key, (dEnt e).val], .cons rfl (.cons rv .nil), ⟨_, hT2, rfl, _, rfl⟩⟩
    have I1 : Inv X pins σ (upd H s.heap.objs.size (.tup [.ref e.2.1, v])) { s with heap := h'' } :=
      I.turnedNew (t' := s.toks) (ch := [it]) (fun b ob hb q => (sb.2 b (fun z => hb (List.mem_singleton.mpr z))).trans (hk b ob (fun z => hb (List.mem_singleton.mpr z)) q)) hf (Nat.le_refl _) new
    refine ⟨.ref s.heap.objs.size, _, I1, rfl, ⟨_, e, v, hxi, hvi, rfl, I.hok.fresh (Nat.le_refl _), rfl⟩, ⟨(dEnt e).key, (dEnt e).val, he'⟩, fun b hb => ?_⟩
    obtain rfl := List.mem_singleton.mp hb
    rw [upd_ne (Nat.ne_of_lt hlt)]
    exact (hf _ hb).1
  done := by
    intro X hP hw hK hc i pins s σ H E I hf ⟨ok, ov, he⟩ ⟨hd, hi⟩
    subst hP hw hK
    have hsz : es.size = xs.length := by rw [← Array.length_toList, hes, List.length_map]
    obtain ⟨f0, f1, f2, f3, f4, f5⟩ := hf it (List.mem_singleton.mpr rfl)
    exact DT.endI (I.ok.hd hc) he ⟨o, (dctO I hd).1, hx, hod⟩ (by omega) fun h' eb => ⟨rfl, I.turned (t' := s.toks) (fun b ob hb e => eb b ob hb e) f0 f1 f3 f4 f5⟩
  self := fun A i s Q E ⟨_, _, e⟩ h => PySem.W.kcp_self e h
def iZt (td : TE) : TI := fun σ H R => td σ H fun x H1 => ∃ d o xs vs, x = .ref d ∧ H1 d = some (.frz o (.ext (DRaw d xs))) ∧ Paired (fun v (x : List Int × Addr × Value) => RelV v x.2.2) vs xs ∧ R (Itz d o xs vs) H1
section
variable {X : Cx} {E : EX} {e : Expr} {apos cpos tpos : Pos} {td : TE} {elts : List Expr} {kk : Nat} {fa : ED}
theorem pi_z (he : PE X e td) (hbase : attributeBase e "items" X.env (eval e X.env) = eval e X.env := by rfl) (hline : (apos.endLine == cpos.line) = true := by rfl) : PI X (.Tuple elts kk tpos) (.Call (.Attribute e "items" apos) [] [] cpos) (iZt td) := by
  refine ⟨fun pins s σ H R I h => ?_⟩
  refine wpAny_Call_method (T := "dict") (id := "dict.items") hbase rfl hline PySem.F.plainAttrs_dict PySem.F.slot_dict_items PySem.F.type_dict_items (thn (he.run pins s σ H _ I h) fun u s1 ⟨x, H1, I1, rx, d, o, xs, vs, ex, hd, hv, q⟩ => ?_)
  subst ex
  obtain rfl : u = Value.ref d := rx
  obtain ⟨ho, hx, es, ep, hod, hes⟩ := dctO I1 hd
  have hs : (d == sysModules) = false := let ⟨_, _, _, _, _, _, _, _, z⟩ := rawOf I1 hd; z
  refine ⟨⟨o, ho, hx.1⟩, fun b z => by cases z; exact ⟨o, ho, hx.2.1⟩, ?_⟩
  have I2 : Inv X pins σ H1 { s1 with heap := s1.heap.push { cls := .type "dict_items", data := .fields #[.ref d] } } := I1.kept (t' := s1.toks) fun b ob q => Heap.get?_push_of_some _ q
  have raw : DT.Raw s1.heap d es ep := ⟨o, ho, hx, hod⟩
  refine Calls.callWith_builtin rfl (PySem.evalArgs_none ?_)
  refine DT.callItems hs raw ?_
  refine DT.iterI (v := s1.heap.objs.size) (s := { s1 with heap := s1.heap.push { cls := .type "dict_items", data := .fields #[.ref d] } }) ⟨_, Heap.get?_push_size _ rfl, rfl, rfl⟩ (raw.push _) ?_
  exact pi_one (tk := s1.toks) I2 _ (turn_z hod hes hx hv) ⟨.none, .none, Heap.get?_push_size _ rfl⟩ q
def iItm (fa : ED) : EL := fun st => (fa st).bind fun x s => match x with
  | .dict [(.list [.list kd], .list ds)] => .ok (zipD kd ds) s
  | _ => .bad
theorem di_items (he : PE X e (tD X.K E fa)) (hbase : attributeBase e "items" X.env (eval e X.env) = eval e X.env := by rfl) (hline : (apos.endLine == cpos.line) = true := by rfl) : PI X (.Tuple elts kk tpos) (.Call (.Attribute e "items" apos) [] [] cpos) (tI X.K E true (iItm fa)) := by
  refine pi_imp (pi_z he hbase hline) fun σ H R0 ⟨W, st, R, h⟩ => ?_
  refine tD_of R (h.then.imp fun x s1 W1 H1 _ R1 X1 h1 v hv => ?_)
  cases hv with
  | @dct d o xs vs kd ds ek hd ht hp hz hds =>
    refine ⟨d, o, xs, vs, rfl, hd, hp, h1 W1 H1 R1 .refl _ ⟨?_, fun i W2 H2 L fok => ⟨fun y hy => ?_, fun hi => ⟨L.fr _ _ _ hd (fun _ z => nomatch z), ?_⟩⟩⟩⟩
    · rw [zipD_len]
      omega
    · obtain ⟨k, z, hk, hz', rfl⟩ := zipD_get _ _ _ _ hy
      rw [ek, List.getElem?_map] at hk
      obtain ⟨en, hen, rfl⟩ := Option.map_eq_some_iff.mp hk
      refine ⟨⟨L.fr _ _ _ hd (fun _ z => nomatch z), (List.getElem?_eq_some_iff.mp hen).1⟩, fun x H3 ⟨T, e2, v2, q1, q2, q3, q4, q5⟩ => ?_⟩
      rw [hen] at q1
      cases q1
      obtain ⟨v3, q6, q7⟩ := hds.get hz'
      rw [q2] at q6
      cases q6
      have g := Fok.new (p := T) (o := .tup [.ref en.2.1, v2]) fok q4
      subst q3 q5
      have hk := (ht en (List.mem_of_getElem? hen)).lat (L.trans g.lat)
      exact ⟨W2, g, .inr ⟨rfl, T, _, _, rfl, rfl, SqT.of upd_same, .cons (.tup hk.1 (by rw [List.length_map]; exact hk.2) (.mapInt en.1)) (.cons (q7.lat (L.trans g.lat)) .nil)⟩⟩
    · rw [zipD_len] at hi
      have l1 := hds.length
      have l2 := Paired.length hp
      have l3 : kd.length = xs.length := by rw [ek, List.length_map]
      omega
  | _ => exact h1.elim
end
/-! ### what they compute -/
section
variable {fa : ED} {f : EL} {g : TGT} {tt : ET} {tk tv : ED} {vs : List Nat} {C : PyData → Sta → Prop} {D : List PyData → Sta → Prop} {st : Sta}
theorem dPut_new : ∀ {kd ds : List PyData} {key v : PyData} {ks : List Int}, kd.length = ds.length → (∀ k ∈ kd, tupInts k ≠ some ks) → dPut kd ds key ks v = (kd ++ [key], ds ++ [v])
  | [], [], _, _, _, _, _ => rfl
  | k :: kd, d :: ds, key, v, ks, hl, h => by
    unfold dPut
    rw [if_neg (h k List.mem_cons_self), dPut_new (by simpa using hl) fun x hx => h x (List.mem_cons_of_mem _ hx)]
    rfl
/-- a dict comprehension that changes nothing, of distinct keys -/
theorem wp_dcP (hk : PyData → List Int) (hv : PyData → PyData) (h : (f st).wp fun ds s => (∀ d ∈ ds, ∃ s1, g d (wipeS vs s) = some s1 ∧ ((tt s1).wp fun k s2 => k = true ∧ s2 = s1) ∧ ((tk s1).wp fun y s2 => y = tupZ (hk d) ∧ s2 = s1) ∧ ((tv s1).wp fun y s2 => y = hv d ∧ s2 = s1) ∧ wipeS vs s1 = wipeS vs s) ∧
    (ds.map hk).Nodup ∧ C (dcD (ds.map fun d => tupZ (hk d)) (ds.map hv)) s) : (eDc f g tt tk tv vs st).wp C := by
  unfold eDc
  rw [wp_bind]
  refine wp_mono h fun ds s ⟨all, nd, fin⟩ => ?_
  have key : ∀ (es done : List PyData), ds = done ++ es → dcL g tt tk tv vs es (done.map fun d => tupZ (hk d), done.map hv) (wipeS vs s) = .ok (ds.map fun d => tupZ (hk d), ds.map hv) (wipeS vs s) := by
    intro es
    induction es with
    | nil => intro done e; rw [List.append_nil] at e; subst e; rfl
    | cons d es ih =>
      intro done e
      obtain ⟨s1, eg, ht, hk', hv', hw⟩ := all d (by rw [e]; simp)
      unfold dcL
      rw [eg]
      dsimp only
      rw [wp_eq.mp ht, Rs.nox_ok, Rs.bind_ok, if_pos rfl]
      rw [wp_eq.mp hk', Rs.nox_ok, Rs.bind_ok, wp_eq.mp hv', Rs.nox_ok, Rs.bind_ok]
      have et : tupInts (tupZ (hk d)) = some (hk d) := tupInts_map _
      have fresh : ∀ k ∈ done.map (fun d => tupZ (hk d)), tupInts k ≠ some (hk d) := fun k hk2 z => by
        obtain ⟨d', hd', rfl⟩ := List.mem_map.mp hk2
        rw [tupInts_map] at z
        rw [e, List.map_append, List.nodup_append] at nd
        exact nd.2.2 _ (List.mem_map.mpr ⟨d', hd', rfl⟩) _ (List.mem_map.mpr ⟨d, List.mem_cons_self, rfl⟩) (Option.some.inj z)
      have ep := dPut_new (key := tupZ (hk d)) (v := hv d) (ds := done.map hv) (by simp) fresh
      simp only [et, ep, hw]
      have := ih (done ++ [d]) (by rw [e]; simp)
      rw [List.map_append, List.map_append] at this
      exact this
  have := key ds [] rfl
  rw [List.map_nil, List.map_nil] at this
  rw [this, Rs.bind_ok]
  show C _ { wipeS vs s with r := backR s.r (wipeR s.r vs) vs }
  rw [back_wipe]
  exact fin
@[simp] theorem wp_iItm : (iItm fa st).wp D ↔ (fa st).wp fun x s => ∃ kd ds, x = dcD kd ds ∧ D (zipD kd ds) s := by
  unfold iItm
  rw [wp_bind]
  refine ⟨fun h => wp_mono h fun x s z => ?_, fun h => wp_mono h fun x s ⟨kd, ds, e, z⟩ => by subst e; exact z⟩
  split at z
  · exact ⟨_, _, rfl, z⟩
  · exact z.elim
end
end DL
/-! DT2: list comprehensions of two fors. -/
namespace DL
open PySem PySem.Spec PyProof.Rows L2
def lcD2 (g : TGT) (tt : ET) (f1 : EL) (g1 : TGT) (tt1 : ET) (te : ED) (vs vs1 : List Nat) : List PyData → List PyData → Sta → Rs (List PyData)
  | [], acc, st => .ok acc st
  | d :: ds, acc, st => match g d st with
    | none => .bad
    | some s1 => (tt s1).nox.bind fun b s2 => if b = true then (f1 s2).nox.bind fun es s3 => (lcD g1 tt1 te vs1 es acc (wipeS vs1 s3)).nox.bind fun acc' s4 => lcD2 g tt f1 g1 tt1 te vs vs1 ds acc' (wipeS vs s4)
      else lcD2 g tt f1 g1 tt1 te vs vs1 ds acc (wipeS vs s2)
def nLc2 (f : EL) (g : TGT) (tt : ET) (f1 : EL) (g1 : TGT) (tt1 : ET) (te : ED) (vs vs1 : List Nat) : EL := fun st => (f st).bind fun ds s1 => (lcD2 g tt f1 g1 tt1 te vs vs1 ds [] (wipeS vs s1)).nox.bind fun acc s2 => if acc.length ≤ 16777216 then .ok acc { s2 with r := backR s1.r s2.r vs } else .bad
theorem lcD_len {g : TGT} {tt : ET} {te : ED} {vs : List Nat} : ∀ {ds acc : List PyData} {st : Sta} {r : List PyData} {s2 : Sta}, lcD g tt te vs ds acc st = .ok r s2 → acc.length ≤ r.length
  | [], acc, st, r, s2, h => by cases h; exact Nat.le_refl _
  | d :: ds, acc, st, r, s2, h => by
    unfold lcD at h
    split at h
    · cases h
    · rename_i s1 _
      cases e1 : (tt s1).nox with
      | bad => rw [e1] at h; cases h
      | ex c' s' => rw [e1] at h; cases h
      | ok b s3 =>
        rw [e1] at h
        simp only [Rs.bind_ok] at h
        split at h
        · cases e2 : (te s3).nox with
          | bad => rw [e2] at h; cases h
          | ex c' s' => rw [e2] at h; cases h
          | ok y s4 =>
            rw [e2] at h
            simp only [Rs.bind_ok] at h
            have := lcD_len h
            rw [List.length_append] at this
            omega
        · exact lcD_len h
theorem lcD2_len {g : TGT} {tt : ET} {f1 : EL} {g1 : TGT} {tt1 : ET} {te : ED} {vs vs1 : List Nat} : ∀ {ds acc : List PyData} {st : Sta} {r : List PyData} {s2 : Sta}, lcD2 g tt f1 g1 tt1 te vs vs1 ds acc st = .ok r s2 → acc.length ≤ r.length
  | [], acc, st, r, s2, h => by cases h; exact Nat.le_refl _
  | d :: ds, acc, st, r, s2, h => by
    unfold lcD2 at h
    split at h
    · cases h
    · rename_i s1 _
      cases e1 : (tt s1).nox with
      | bad => rw [e1] at h; cases h
      | ex c' s' => rw [e1] at h; cases h
      | ok b s3 =>
        rw [e1] at h
        simp only [Rs.bind_ok] at h
        split at h
        · cases e2 : (f1 s3).nox with
          | bad => rw [e2] at h; cases h
          | ex c' s' => rw [e2] at h; cases h
          | ok es s4 =>
            rw [e2] at h
            simp only [Rs.bind_ok] at h
            cases e3 : (lcD g1 tt1 te vs1 es acc (wipeS vs1 s4)).nox with
            | bad => rw [e3] at h; cases h
            | ex c' s' => rw [e3] at h; cases h
            | ok a s5 =>
              rw [e3] at h
              simp only [Rs.bind_ok] at h
              have h1 := lcD_len (nox_ok e3)
              have h2 := lcD2_len h
              omega
        · exact lcD2_len h
theorem wipe_more {vs vs1 : List Nat} {σ : L2.St} (h : ∀ i ∈ vs1, i ∈ vs) : wipe (wipe σ vs1) vs = wipe σ vs := by
  refine List.ext_getElem? fun i => ?_
  by_cases hv : i ∈ vs
  · by_cases hi : i < σ.length
    · rw [wipe_in hv (by rw [wipe_length]; exact hi), wipe_in hv hi]
    · rw [List.getElem?_eq_none (by rw [wipe_length, wipe_length]; omega), List.getElem?_eq_none (by rw [wipe_length]; omega)]
  · rw [wipe_out hv, wipe_out hv, wipe_out fun z => hv (h i z)]
section
variable {K : PySem.W.Frag} {E : EX} {W1 Wc W2 : Wd} {H1 Hc H2 : Hp} {σ0 σ σ2 : L2.St} {r1 : List Slot} {st s2 : Sta} {vs : List Nat} {D : Addr}
theorem CB.push (c : CB K W1 H1 σ0 r1 Wc Hc σ st) {acc : List PyData} {xs : List V} {y : PyData} {v : V} (hD : H1 D = none) (F : Fre K Wc Hc σ st.r D acc) (e : Hc D = some (.lst xs)) (hv : IsD K Wc Hc v y) (hl : acc.length < sizeLine) :
    CB K W1 H1 σ0 r1 Wc (upd Hc D (.lst (xs ++ [v]))) σ st ∧ Fre K Wc (upd Hc D (.lst (xs ++ [v]))) σ st.r D (acc ++ [y]) := by
  obtain ⟨⟨xs', e', hxs⟩, z, nf, nl, no⟩ := F
  rw [e] at e'
  cases e'
  obtain ⟨R6, F6, L6⟩ := c.R.updFre (es := acc ++ [y]) ⟨⟨xs, e, hxs⟩, z, nf, nl, no⟩ (hxs.append (.cons hv .nil)) (by rw [List.length_append]; exact hl)
  exact ⟨⟨R6, c.L.trans L6, c.X.updNew hD⟩, F6⟩
theorem Fre.wiped {acc : List PyData} (R : Rel K Wc Hc σ st) (F : Fre K Wc Hc σ st.r D acc) (e : wipe σ vs = σ2) : Fre K Wc Hc σ2 (wipeR st.r vs) D acc := by
  obtain ⟨a, o⟩ := R.wiped vs
  rw [e] at o
  exact ⟨F.at_, F.z, F.f, F.l, fun h => F.o (o D h)⟩
/-- the turns of one for of a comprehension, the list partly filled -/
theorem lc_turns {w : Bool} {is : List Nat} {g : TGT} {tt : ET} {te : ED} (hv : ∀ i ∈ is, i ∈ vs) {J : It} {Wa : Wd} {Ha : Hp} {ds acc accF : List PyData} {s0 stF : Sta} (J0 : ItOk K w J Wa Ha ds) (hD : H1 D = none) (hw : wipe σ vs = σ) (c : CB K W1 H1 σ0 r1 Wc Hc σ s0) (la : Lat Wa Ha Wc Hc) (F : Fre K Wc Hc σ s0.r D acc)
    (e : lcD g tt te vs ds acc s0 = .ok accF stF) (hz : accF.length ≤ sizeLine) {Fin : Hp → Prop} (fin : ∀ Wd Hd, CB K W1 H1 σ0 r1 Wd Hd σ stF → Fre K Wd Hd σ stF.r D accF → Lat Wa Ha Wd Hd → Fin Hd) :
    ∃ Z : Nat → Nat → Hp → Prop, (∃ m, Z 0 m Hc) ∧ ∀ i m H, Z i m H → (J.stop i H ∧ Fin H) ∨ (J.go i H ∧ ∃ Nx : Hp → Prop, (∀ H', Nx H' → ∃ m', m' < m ∧ Z (i + 1) m' H') ∧ ∀ x H', J.yld i H x H' → tG K w is g x σ H' fun σ3 H5 => wipe σ3 vs = σ ∧ tT K E0 tt σ3 H5 fun b H6 =>
      if b = true then tD K E0 te σ3 H6 fun y H7 => ∃ acc, H7 D = some (.lst acc) ∧ acc.length < sizeLine ∧ Nx (upd H7 D (.lst (acc ++ [y]))) else Nx H6) := by
  refine it_loop J0 (fun i Wd Hi => ∃ s2 acc, CB K W1 H1 σ0 r1 Wd Hi σ s2 ∧ Lat Wa Ha Wd Hi ∧ Fre K Wd Hi σ s2.r D acc ∧ lcD g tt te vs (ds.drop i) acc s2 = .ok accF stF) ⟨s0, acc, c, la, F, e⟩ (fun i Wd Hi ⟨_, _, c, l, _⟩ => ⟨l, c.R.fok⟩) (fun Wd Hi ⟨s2, acc, c, l, F, e⟩ => ?_) fun i d Wd Hi x W3 H' hd ⟨s2, acc, c, l, F, e⟩ g3 hx => ?_
  · rw [List.drop_length] at e
    unfold lcD at e
    cases e
    exact fin Wd Hi c F l
  · have hlt : i < ds.length := (List.getElem?_eq_some_iff.mp hd).1
    rw [List.drop_eq_getElem_cons hlt] at e
    rw [List.getElem?_eq_getElem hlt] at hd
    cases hd
    unfold lcD at e
    cases eg : g ds[i] s2 with
    | none => rw [eg] at e; cases e
    | some s3 =>
      rw [eg] at e
      dsimp only at e
      refine ⟨W3, s2, ds[i], s3, g3.rel c.R, hx, eg, fun σ3 o3 R3 X3 => ?_⟩
      have wq : wipe σ3 vs = σ := (wipe_off o3 hv).trans hw
      refine ⟨wq, ?_⟩
      have c3 := (c.grow g3).step R3 X3
      have F3 : Fre K W3 H' σ3 s3.r D acc := (F.ext (st := s2) c.R g3.ext).ext (st := s2) (g3.rel c.R) X3
      have l3 := l.trans g3.lat
      cases et : (tt s3).nox with
      | bad => rw [et] at e; cases e
      | ex c' s' => exact (nox_noex et).elim
      | ok b s4 =>
        rw [et] at e
        simp only [Rs.bind_ok] at e
        refine tT_of R3 (Res.ofOk (nox_ok et) fun W4 H4 R4 X4 => ?_)
        have c4 := c3.step R4 X4
        have F4 : Fre K W4 H4 σ3 s4.r D acc := F3.ext (st := s3) R3 X4
        have l4 : Lat Wa Ha W4 H4 := l3.trans ((g3.rel c.R).lat (X3.trans X4))
        cases b with
        | false =>
          rw [if_neg Bool.false_ne_true] at e ⊢
          exact ⟨W4, wipeS vs s4, acc, c4.wiped wq, l4, F4.wiped c4.R wq, e⟩
        | true =>
          rw [if_pos rfl] at e ⊢
          cases ey : (te s4).nox with
          | bad => rw [ey] at e; cases e
          | ex c' s' => exact (nox_noex ey).elim
          | ok y s5 =>
            rw [ey] at e
            simp only [Rs.bind_ok] at e
            refine tD_of R4 (Res.ofOk (nox_ok ey) fun W5 H5 R5 X5 v hvy => ?_)
            have c5 := c4.step R5 X5
            have F5 : Fre K W5 H5 σ3 s5.r D acc := F4.ext (st := s4) R4 X5
            obtain ⟨⟨xs, ea, hxs⟩, _⟩ := id F5
            have ll := lcD_len e
            rw [List.length_append, List.length_singleton] at ll
            refine ⟨xs, ea, by rw [hxs.length]; omega, ?_⟩
            obtain ⟨c6, F6⟩ := c5.push hD F5 ea hvy (by omega)
            have l6 : Lat W5 H5 W5 (upd H5 D (.lst (xs ++ [v]))) := (c5.R.updFre (es := acc ++ [y]) F5 (hxs.append (.cons hvy .nil)) (by rw [List.length_append, List.length_singleton]; omega)).2.2
            exact ⟨W5, wipeS vs s5, acc ++ [y], c6.wiped wq, (l4.trans (R4.lat X5)).trans l6, F6.wiped c6.R wq, e⟩
end
theorem lc2_read {K : PySem.W.Frag} {E : EX} {w w1 : Bool} {is is1 vs vs1 : List Nat} {f f1 : EL} {g g1 : TGT} {tt tt1 : ET} {te : ED} (hv : ∀ i ∈ is, i ∈ vs) (hv1 : ∀ i ∈ is1, i ∈ vs1) (h1v : ∀ i ∈ vs1, i ∈ vs) {σ : L2.St} {H : Hp} {Q : VK} (h : tN K E (nLc2 f g tt f1 g1 tt1 te vs vs1) σ H Q) :
    tLc2 (tI K E w f) (tG K w is g) (tT K E0 tt) (tI K E0 w1 f1) (tG K w1 is1 g1) (tT K E0 tt1) (tD K E0 te) vs vs1 σ H Q := by
  obtain ⟨W, st, R, h⟩ := h
  refine ⟨W, st, R, ?_⟩
  unfold nLc2 at h
  refine h.then.imp fun ds s1 W1 H1 ef R1 X1 h1 => ?_
  intro J J0 D hD
  obtain ⟨Rw, ow⟩ := R1.wiped vs
  have hHD : H D = none := by
    cases e : H D with
    | none => rfl
    | some o => exact absurd hD (X1.dom D (by rw [e]; simp))
  cases eL : (lcD2 g tt f1 g1 tt1 te vs vs1 ds [] (wipeS vs s1)).nox with
  | bad => rw [eL] at h1; exact h1.elim
  | ex c s2 => exact (nox_noex eL).elim
  | ok accF stF =>
    rw [eL] at h1
    simp only [Rs.bind_ok] at h1
    by_cases hz : accF.length ≤ 16777216
    · rw [if_pos hz] at h1
      have hz' : accF.length ≤ sizeLine := sz_line hz
      replace eL := nox_ok eL
      have g0 := Fok.new (p := D) (o := .lst []) Rw.fok hD
      have F0 := Rw.fre hD g0 upd_same (.nil) (ds := []) (Nat.zero_le _)
      have c0 : CB K W1 H1 (wipe σ vs) (wipeR s1.r vs) W1 (upd H1 D (.lst [])) (wipe σ vs) (wipeS vs s1) := ⟨g0.rel Rw, g0.lat, Ext.updNew .refl hD⟩
      refine it_loop J0 (fun i Wd Hi => ∃ s2 acc, CB K W1 H1 (wipe σ vs) (wipeR s1.r vs) Wd Hi (wipe σ vs) s2 ∧ Fre K Wd Hi (wipe σ vs) s2.r D acc ∧ lcD2 g tt f1 g1 tt1 te vs vs1 (ds.drop i) acc s2 = .ok accF stF)
        ⟨wipeS vs s1, [], c0, F0, eL⟩ (fun i Wd Hi ⟨_, _, c, _⟩ => ⟨c.L, c.R.fok⟩) (fun Wd Hi ⟨s2, acc, c, F, e⟩ => ?_) fun i d Wd Hi x W3 H' hd ⟨s2, acc, c, F, e⟩ g3 hx => ?_
      · rw [List.drop_length] at e
        unfold lcD2 at e
        cases e
        obtain ⟨Rb, Xb⟩ := R1.backed c.R c.X
        refine h1 Wd Hi Rb Xb D ⟨F.at_, F.z, F.f, F.l, fun ho => ?_⟩ hHD
        rcases Xb.on D ho with z | z
        · obtain ⟨_, _, xs, q'⟩ := R1.ownF z
          rw [hD] at q'; cases q'
        · obtain ⟨i, l, hi, qi⟩ := ho
          by_cases hiv : i ∈ vs
          · have hil : i < stF.r.length := by rw [← backR_len s1.r stF.r vs]; exact (List.getElem?_eq_some_iff.mp hi).1
            rw [backR_in hiv hil] at hi
            have hl2 : stF.r.length = s1.r.length := by rw [← c.R.len, wipe_length, R1.len]
            rw [List.getD_eq_getElem?_getD, List.getElem?_eq_getElem (by omega)] at hi
            have hi' : s1.r[i]? = some (.own l) := by rw [List.getElem?_eq_getElem (by omega)]; exact hi
            obtain ⟨b, xs, z1, z2, _⟩ := R1.own i l hi'
            rw [qi] at z1; cases z1
            rw [hD] at z2; cases z2
          · rw [backR_out hiv] at hi
            exact F.o ⟨i, l, hi, by rw [wipe_out hiv]; exact qi⟩
      · have hlt : i < ds.length := (List.getElem?_eq_some_iff.mp hd).1
        rw [List.drop_eq_getElem_cons hlt] at e
        rw [List.getElem?_eq_getElem hlt] at hd
        cases hd
        unfold lcD2 at e
        cases eg : g ds[i] s2 with
        | none => rw [eg] at e; cases e
        | some s3 =>
          rw [eg] at e
          dsimp only at e
          refine ⟨W3, s2, ds[i], s3, g3.rel c.R, hx, eg, fun σ3 o3 R3 X3 => ?_⟩
          have wq : wipe σ3 vs = wipe σ vs := (wipe_off o3 hv).trans wipe_wipe
          refine ⟨wq, ?_⟩
          have c3 := (c.grow g3).step R3 X3
          have F3 : Fre K W3 H' σ3 s3.r D acc := (F.ext (st := s2) c.R g3.ext).ext (st := s2) (g3.rel c.R) X3
          cases et : (tt s3).nox with
          | bad => rw [et] at e; cases e
          | ex c' s' => exact (nox_noex et).elim
          | ok b s4 =>
            rw [et] at e
            simp only [Rs.bind_ok] at e
            refine tT_of R3 (Res.ofOk (nox_ok et) fun W4 H4 R4 X4 => ?_)
            have c4 := c3.step R4 X4
            have F4 : Fre K W4 H4 σ3 s4.r D acc := F3.ext (st := s3) R3 X4
            cases b with
            | false =>
              rw [if_neg Bool.false_ne_true] at e ⊢
              exact ⟨W4, wipeS vs s4, acc, c4.wiped wq, F4.wiped c4.R wq, e⟩
            | true =>
              rw [if_pos rfl] at e ⊢
              cases e1 : (f1 s4).nox with
              | bad => rw [e1] at e; cases e
              | ex c' s' => exact (nox_noex e1).elim
              | ok es s5 =>
                rw [e1] at e
                simp only [Rs.bind_ok] at e
                refine ⟨W4, s4, R4, Res.ofOk (nox_ok e1) fun W5 H5 R5 X5 J1 JJ => ?_⟩
                have c5 := c4.step R5 X5
                have F5 : Fre K W5 H5 σ3 s5.r D acc := F4.ext (st := s4) R4 X5
                cases e2 : (lcD g1 tt1 te vs1 es acc (wipeS vs1 s5)).nox with
                | bad => rw [e2] at e; cases e
                | ex c' s' => exact (nox_noex e2).elim
                | ok acc2 s6 =>
                  rw [e2] at e
                  simp only [Rs.bind_ok] at e
                  have ww : wipe (wipe σ3 vs1) vs1 = wipe σ3 vs1 := wipe_wipe
                  have wv : wipe (wipe σ3 vs1) vs = wipe σ vs := (wipe_more h1v).trans wq
                  exact lc_turns hv1 JJ hD ww (c5.wiped rfl) (.refl _ _) (F5.wiped c5.R rfl) (nox_ok e2) (Nat.le_trans (lcD2_len e) hz') fun Wd Hd cd Fd _ => ⟨Wd, wipeS vs s6, acc2, cd.wiped wv, Fd.wiped cd.R wv, e⟩
    · rw [if_neg hz] at h1; exact h1.elim
section
variable {X : Cx} {E : EX} {w w1 : Bool} {is is1 vs1 : List Nat} {own : List (Str × Nat)} {f f1 : EL} {g g1 : TGT} {tt tt1 : ET} {te tk tv : ED} {elt kx vx tg iter tg1 iter1 : Expr} {ifs ifs1 : List Expr} {scope : Scope} {pos spos py : Pos}
theorem dn_lc2 (hc : X.calm = true) (hN : X.N.Nodup) (hi : PI X tg iter (tI X.K E w f)) (ok : BlkOk X.N X.env.scope scope own) (hv : ∀ i ∈ is, i ∈ own.map (·.2)) (hv1 : ∀ i ∈ is1, i ∈ vs1) (h1v : ∀ i ∈ vs1, i ∈ own.map (·.2))
    (hg : ∀ (s : Shared) (H : Hp) (C : Addr) (cl : List (Str × Addr)) (fp : List Addr), PG (X.blk s H scope (compEnvC scope cl C X.env) fp) tg (tG X.K w is g))
    (ht : ∀ (s : Shared) (H : Hp) (C : Addr) (cl : List (Str × Addr)) (fp : List Addr), PTs (X.blk s H scope (compEnvC scope cl C X.env) fp) ifs (tT X.K E0 tt))
    (hi1 : ∀ (s : Shared) (H : Hp) (C : Addr) (cl : List (Str × Addr)) (fp : List Addr), PI (X.blk s H scope (compEnvC scope cl C X.env) fp) tg1 iter1 (tI X.K E0 w1 f1))
    (hg1 : ∀ (s : Shared) (H : Hp) (C : Addr) (cl : List (Str × Addr)) (fp : List Addr), PG (X.blk s H scope (compEnvC scope cl C X.env) fp) tg1 (tG X.K w1 is1 g1))
    (ht1 : ∀ (s : Shared) (H : Hp) (C : Addr) (cl : List (Str × Addr)) (fp : List Addr), PTs (X.blk s H scope (compEnvC scope cl C X.env) fp) ifs1 (tT X.K E0 tt1))
    (he : ∀ (s : Shared) (H : Hp) (C : Addr) (cl : List (Str × Addr)) (fp : List Addr), PE (X.blk s H scope (compEnvC scope cl C X.env) fp) elt (tD X.K E0 te))
    (hs : ∀ x, foldedSetIterable iter X.env x = pure x := by intro _; rfl) (hs1 : ∀ env x, foldedSetIterable iter1 env x = pure x := by intro _ _; rfl) :
    PE X (.ListComp elt [⟨tg, iter, ifs, 0⟩, ⟨tg1, iter1, ifs1, 0⟩] scope pos) (tN X.K E (nLc2 f g tt f1 g1 tt1 te (own.map (·.2)) vs1)) :=
  pe_imp (pe_lc2 hc hN hi ok h1v hg ht hi1 hg1 ht1 he hs hs1) fun _ _ _ h => lc2_read hv hv1 h1v h
theorem ds_lc2Asg (i : Nat) {y : Str} (hc : X.calm = true) (hN : X.N.Nodup) (hi : PI X tg iter (tI X.K E w f)) (ok : BlkOk X.N X.env.scope scope own) (hv : ∀ i ∈ is, i ∈ own.map (·.2)) (hv1 : ∀ i ∈ is1, i ∈ vs1) (h1v : ∀ i ∈ vs1, i ∈ own.map (·.2))
    (hg : ∀ (s : Shared) (H : Hp) (C : Addr) (cl : List (Str × Addr)) (fp : List Addr), PG (X.blk s H scope (compEnvC scope cl C X.env) fp) tg (tG X.K w is g))
    (ht : ∀ (s : Shared) (H : Hp) (C : Addr) (cl : List (Str × Addr)) (fp : List Addr), PTs (X.blk s H scope (compEnvC scope cl C X.env) fp) ifs (tT X.K E0 tt))
    (hi1 : ∀ (s : Shared) (H : Hp) (C : Addr) (cl : List (Str × Addr)) (fp : List Addr), PI (X.blk s H scope (compEnvC scope cl C X.env) fp) tg1 iter1 (tI X.K E0 w1 f1))
    (hg1 : ∀ (s : Shared) (H : Hp) (C : Addr) (cl : List (Str × Addr)) (fp : List Addr), PG (X.blk s H scope (compEnvC scope cl C X.env) fp) tg1 (tG X.K w1 is1 g1))
    (ht1 : ∀ (s : Shared) (H : Hp) (C : Addr) (cl : List (Str × Addr)) (fp : List Addr), PTs (X.blk s H scope (compEnvC scope cl C X.env) fp) ifs1 (tT X.K E0 tt1))
    (he : ∀ (s : Shared) (H : Hp) (C : Addr) (cl : List (Str × Addr)) (fp : List Addr), PE (X.blk s H scope (compEnvC scope cl C X.env) fp) elt (tD X.K E0 te))
    (hy : X.N[i]? = some y := by rfl) (hyl : X.env.scope.names.lookup y = some .local := by rfl) (hsw : swapsWith (.ListComp elt [⟨tg, iter, ifs, 0⟩, ⟨tg1, iter1, ifs1, 0⟩] scope pos) (some (.Name y py)) spos.line X.env = pure true := by exact sw_true rfl rfl rfl (by decide +kernel))
    (hs : ∀ x, foldedSetIterable iter X.env x = pure x := by intro _; rfl) (hs1 : ∀ env x, foldedSetIterable iter1 env x = pure x := by intro _ _; rfl) :
    PS X (.Assign [.Name y py] (.ListComp elt [⟨tg, iter, ifs, 0⟩, ⟨tg1, iter1, ifs1, 0⟩] scope pos) spos) (tS X.K E (sAsg (gN i) (eLst (nLc2 f g tt f1 g1 tt1 te (own.map (·.2)) vs1)))) := by
  refine ps_imp (ps_setLc2 hc hN hy hyl hsw hi ok h1v hg ht hi1 hg1 ht1 he hs hs1) fun D σ H h => ?_
  refine lc2_read hv hv1 h1v (new_read ?_)
  obtain ⟨W, st, R, h⟩ := h
  refine tD_of R (h.then.imp fun d s1 W1 H1 _ R1 X1 h1 v hv => ?_)
  obtain ⟨R2, X2⟩ := R1.setVal i hv
  exact h1 (σ.set i (some v)) W1 H1 R2 X2
/-- y = {..} on one line -/
theorem ps_setDz {i : Nat} {y : Str} {wi : TI} {g : TG} {tt : TT} {tk tv : TE} (hc : X.calm = true) (hN : X.N.Nodup) (hu : X.A.units < cLine) (hy : X.N[i]? = some y) (hyl : X.env.scope.names.lookup y = some .local)
    (hsw : swapsWith (.DictComp kx vx [⟨tg, iter, ifs, 0⟩] scope pos) (some (.Name y py)) spos.line X.env = pure true) (hi : PI X tg iter wi) (ok : BlkOk X.N X.env.scope scope own)
    (hg : ∀ (s : Shared) (H : Hp) (C : Addr) (cl : List (Str × Addr)) (fp : List Addr), PG (X.blk s H scope (compEnvC scope cl C X.env) fp) tg g)
    (ht : ∀ (s : Shared) (H : Hp) (C : Addr) (cl : List (Str × Addr)) (fp : List Addr), PTs (X.blk s H scope (compEnvC scope cl C X.env) fp) ifs tt)
    (hk : ∀ (s : Shared) (H : Hp) (C : Addr) (cl : List (Str × Addr)) (fp : List Addr), PE (X.blk s H scope (compEnvC scope cl C X.env) fp) kx tk)
    (he : ∀ (s : Shared) (H : Hp) (C : Addr) (cl : List (Str × Addr)) (fp : List Addr), PE (X.blk s H scope (compEnvC scope cl C X.env) fp) vx tv)
    (hs : ∀ x, foldedSetIterable iter X.env x = pure x := by intro _; rfl) :
    PS X (.Assign [.Name y py] (.DictComp kx vx [⟨tg, iter, ifs, 0⟩] scope pos) spos) (tAsg (tDz wi g tt tk tv (own.map (·.2))) (gName i)) := by
  refine ⟨fun pins s σ H D I h => ?_⟩
  rw [exec_Assign_Name_used _ _ _ _ hsw]
  refine wpAny_bind (wpAny_standAt (wpAny_bind ?_))
  have hh : tDz wi g tt tk tv (own.map (·.2)) σ H (fun x Hx => gName i x σ Hx D.nx) := h
  show wpAny _ X.A (do let _ ← comprehension (.DictComp kx vx [⟨tg, iter, ifs, 0⟩] scope pos) scope X.env (firstIterPos [⟨tg, iter, ifs, 0⟩] pos) newDict false (eval iter X.env) (some (assign (.Name y py) X.env))) _ _ s
  refine wpAny_bind (thn (dz_core (Qf := fun _ s' => SP X pins D .next s') hc hN hu I hi ok hg ht hk he hs hh fun L C s' m H' Il ql hn fl => ?_) fun _ s' hq => wpAny_pure (wpAny_pure hq))
  show wpAny _ _ (assign (.Name y py) X.env (.ref L)) _ _ _
  refine wpAny_assign_Name (store_ok2 (v := V.ref L) Il hN hy (.inl hyl) rfl (fun s2 Is ⟨a, sb, ha⟩ => ?_) (.inr hyl))
  have nCa : C ≠ a := ha.elim (fun z => by rw [z]; exact fl.2.1) fun z q => fl.2.2.2.2.1 y a z q.symm
  exact ⟨m, hn.sameBut sb nCa, fun h3 sc => ⟨_, H', Is.turned (t' := s2.toks) (fun b o hb e => (sc.2 b hb).trans e) fl.1 fl.2.1 fl.2.2.2.1 fl.2.2.2.2.1 fl.2.2.2.2.2, ql⟩⟩
theorem swd_true {kx vx : Expr} {gs : List Comprehension} {scope : Scope} {pos py : Pos} {y : Str} {l : Nat} {env : Env} (hk : env.scope.kind = .function) (hy : env.scope.names.lookup y = some .local) (hl : py.line = pos.line) (hb : env.blockKind = .function)
    (hn : (scope.names.any fun (p : Str × NameKind) => p.1 == y && (p.2 == .local || p.2 == .cell)) = false) : swapsWith (.DictComp kx vx gs scope pos) (some (.Name y py)) l env = pure true := by
  show (pure (env.blockKind == .function && env.kindOf y == some .local && py.line == pos.line && !(scope.names.any fun (p : Str × NameKind) => p.1 == y && (p.2 == .local || p.2 == .cell))) : Sem Bool) = pure true
  have e2 : env.kindOf y = some .local := hy
  rw [hb, e2, hn, hl]
  simp
theorem ds_dcAsg (i : Nat) {y : Str} (hc : X.calm = true) (hN : X.N.Nodup) (hu : X.A.units < cLine) (hi : PI X tg iter (tI X.K E w f)) (ok : BlkOk X.N X.env.scope scope own) (hv : ∀ i ∈ is, i ∈ own.map (·.2))
    (hg : ∀ (s : Shared) (H : Hp) (C : Addr) (cl : List (Str × Addr)) (fp : List Addr), PG (X.blk s H scope (compEnvC scope cl C X.env) fp) tg (tG X.K w is g))
    (ht : ∀ (s : Shared) (H : Hp) (C : Addr) (cl : List (Str × Addr)) (fp : List Addr), PTs (X.blk s H scope (compEnvC scope cl C X.env) fp) ifs (tT X.K E0 tt))
    (hk : ∀ (s : Shared) (H : Hp) (C : Addr) (cl : List (Str × Addr)) (fp : List Addr), PE (X.blk s H scope (compEnvC scope cl C X.env) fp) kx (tD X.K E0 tk))
    (he : ∀ (s : Shared) (H : Hp) (C : Addr) (cl : List (Str × Addr)) (fp : List Addr), PE (X.blk s H scope (compEnvC scope cl C X.env) fp) vx (tD X.K E0 tv))
    (hy : X.N[i]? = some y := by rfl) (hyl : X.env.scope.names.lookup y = some .local := by rfl) (hsw : swapsWith (.DictComp kx vx [⟨tg, iter, ifs, 0⟩] scope pos) (some (.Name y py)) spos.line X.env = pure true := by exact swd_true rfl rfl rfl rfl (by decide +kernel))
    (hs : ∀ x, foldedSetIterable iter X.env x = pure x := by intro _; rfl) :
    PS X (.Assign [.Name y py] (.DictComp kx vx [⟨tg, iter, ifs, 0⟩] scope pos) spos) (tS X.K E (sAsg (gN i) (eDc f g tt tk tv (own.map (·.2))))) := by
  refine ps_imp (ps_setDz hc hN hu hy hyl hsw hi ok hg ht hk he hs) fun D σ H h => ?_
  refine dc_read (E := E) hv ?_
  obtain ⟨W, st, R, h⟩ := h
  refine tD_of R (h.then.imp fun d s1 W1 H1 _ R1 X1 h1 v hv => ?_)
  obtain ⟨R2, X2⟩ := R1.setVal i hv
  exact h1 (σ.set i (some v)) W1 H1 R2 X2
end
end DL
/-! DU: defs with a star parameter, calls of them. -/
namespace DL
open PySem PySem.Spec PyProof.Rows L2
/-- n arguments, and a tuple of the others -/
def packD (n : Nat) (ds : List PyData) : List PyData := ds.take n ++ [.tuple (ds.drop n)]
def spS (K : PySem.W.Frag) (n : Nat) (m : FD) : Sp := fun vs H Q _ => ∃ W S ds, Rel K W H [] ⟨[], S⟩ ∧ IsDs K W H vs ds ∧ n ≤ ds.length ∧ ds.length ≤ 16777216 ∧ match m (packD n ds) S with
  | .ok d S' => ∀ v W' H', Rel K W' H' [] ⟨[], S'⟩ → Ext W H [] [] W' H' [] [] → IsD K W' H' v d → Q v H'
  | _ => False
structure LkS (P : Program) (w : World) (K : PySem.W.Frag) (mg : Str → Option Value) (base : Heap) (k : Nat) (x : Str) (n : Nat) (m : FD) : Prop where
  ex : ∃ f : Addr, mg x = some (.ref f) ∧ PySem.W.keepIn K (.ref f) = true ∧ ∀ (A : Around) (outer : List Env) (s : Shared) (H : Hp) (us : List Value) (vs : List V) (Q : VK) (E : XK), A.guards = some [] → Room k A → Env0 P w K mg base A outer s H → Vals vs us → spS K n m vs H Q E →
    codeAny (model P w) A (.call (.ref f) ⟨us, []⟩) (CR (L2.CX P w) outer P w H s Q E) s
/-- the callee runs -/
theorem called {X : Cx} {f : Addr} {sp : Sp} {pins : List (Addr × Obj)} {σ : L2.St} {H : Hp} {s : Shared} {Q : VK} {us : List Value} {vs : List V} {E : XK} (F : ∀ (s : Shared) (H : Hp) (us : List Value) (vs : List V) (Q : VK), Env0 X.prog X.w X.K X.mg X.base X.A X.stack s H → Vals vs us → sp vs H Q E →
    codeAny (model X.prog X.w) X.A (.call (.ref f) ⟨us, []⟩) (CR (L2.CX X.prog X.w) X.stack X.prog X.w H s Q E) s) (hx : Passes (L2.CX X.prog X.w) X E) (I : Inv X pins σ H s) (r : Vals vs us) (h : sp vs H Q E) : wpAny (model X.prog X.w) X.A (call (.ref f) us) (EP X pins σ Q) X.xe s := by
  refine wpAny_call (codeAny_mono (F s H us vs Q I.env0 r h) fun res s' z => ?_)
  match res, z with
  | .ok (.ret u), z => exact I.after z
  | .error e, z => exact hx pins σ H s e s' I z
def eCallS (n : Nat) (m : FD) (fl : EL) : ED := fun st => (fl st).bind fun ds s => if n ≤ ds.length ∧ ds.length ≤ 16777216 then (match m (packD n ds) s.s with
  | .ok d S' => .ok d { s with s := S' }
  | _ => .bad) else .bad
theorem callS_read {K : PySem.W.Frag} {E : EX} {n : Nat} {m : FD} {fl : EL} {σ : L2.St} {H : Hp} {Q : VK} (h : tD K E (eCallS n m fl) σ H Q) : tL K E fl σ H fun vs H1 => spS K n m vs H1 Q L2.E0 := by
  obtain ⟨W, st, R, h⟩ := h
  unfold eCallS at h
  refine tL_of R (h.then.imp fun ds s W1 H1 _ R1 X1 h1 vs hvs => ?_)
  by_cases hz : n ≤ ds.length ∧ ds.length ≤ 16777216
  · rw [if_pos hz] at h1
    refine ⟨W1, s.s, ds, R1.bare, hvs, hz.1, hz.2, ?_⟩
    cases em : m (packD n ds) s.s with
    | bad => rw [em] at h1; exact h1.elim
    | ex c S' => rw [em] at h1; exact h1.elim
    | ok d S' =>
      rw [em] at h1
      intro v W' H' R' X' hv
      obtain ⟨R2, X2⟩ := R1.behind R' X'
      exact h1 W' H' R2 X2 v hv
  · rw [if_neg hz] at h1; exact h1.elim
section
variable {X : Cx} {E : EX} {k n : Nat} {m : FD} {x : Str} {e : Expr} {es : List Expr} {fl : EL} {fa : ED} {p pos sp_ : Pos}
theorem de_callP (L : LkS X.prog X.w X.K X.mg X.base k x n m) (hr : Room k X.A) (hgd : X.A.guards = some []) (ha : PA X (e :: es) (tL X.K E fl)) (hg : Gl X x := by rfl) (hdb : (x == ("__debug__" : Str)) = false := by decide)
    (he : starEach (e :: es) X.env = (false, eval e X.env) :: starEach es X.env := by rfl) (hpl : (backTo pos (starEach es X.env)).any (·.1) = false := by rfl) : PE X (.Call (.Name x p) (e :: es) [] pos) (tD X.K E (eCallS n m fl)) := by
  obtain ⟨f, hm, hk, F⟩ := L.ex
  constructor
  intro pins s σ H Q I h
  refine wpAny_Call_Name_kw (ld_glob I hg hm (PySem.W.callWith_K (h₀ := X.base) I.ok.mod.kin hk (thn (ha.run pos pins s σ H _ I (callS_read h)) fun us s1 z => ?_) he hpl) hdb)
  obtain ⟨vs, H1, I1, r, q⟩ := z
  exact ⟨I1.kIn, called (fun s H us vs Q e0 rv hq => F X.A X.stack s H us vs Q _ hgd hr e0 rv hq) passL I1 r q⟩
/-- x(*y) -/
def eStarAll (fa : ED) : EL := fun st => (fa st).bind fun y s => match itemsOf y with
  | some ys => .ok ys s
  | none => .bad
theorem de_callStar (L : LkS X.prog X.w X.K X.mg X.base k x n m) (hr : Room k X.A) (hgd : X.A.guards = some []) (he : PE X e (tD X.K E fa)) (hg : Gl X x := by rfl) (hdb : (x == ("__debug__" : Str)) = false := by decide)
    (hst : starEach [.Starred e sp_] X.env = [(true, eval e X.env)] := by rfl) : PE X (.Call (.Name x p) [.Starred e sp_] [] pos) (tD X.K E (eCallS n m (eStarAll fa))) := by
  obtain ⟨f, hm, hk, F⟩ := L.ex
  constructor
  intro pins s σ H Q I h
  refine wpAny_Call_Name_kw (ld_glob I hg hm (PySem.W.callWith_S (h₀ := X.base) I.ok.mod.kin hk ?_ hst) hdb)
  have h' := callS_read h
  have h2 : tD X.K E fa σ H fun y H1 => ∃ a xs, y = .ref a ∧ (SqT X.K H1 a xs ∨ SqL X.K H1 a xs) ∧ spS X.K n m xs H1 Q L2.E0 := by
    obtain ⟨W, st, R, h⟩ := h'
    unfold eStarAll at h
    refine tD_of R (h.then.imp fun y s1 W1 H1 _ R1 X1 h1 v hv => ?_)
    cases ey : itemsOf y with
    | none => rw [ey] at h1; exact h1.elim
    | some ys =>
      rw [ey] at h1
      obtain ⟨q, xs, rfl, hq, hxs, _⟩ := hv.items ey
      exact ⟨q, xs, rfl, hq, h1 W1 H1 R1 .refl xs hxs⟩
  refine thn (he.run pins s σ H _ I h2) fun v s1 ⟨y, H1, I1, ry, a, xs, ey, hxs, q⟩ => ?_
  subst ey
  cases ry
  exact StX.star_any I1 hxs fun us s2 I2 rv => ⟨I2.kIn, called (fun s H us vs Q e0 rv hq => F X.A X.stack s H us vs Q _ hgd hr e0 rv hq) passL I2 rv q⟩
end
theorem Room.more {k : Nat} {A : Around} (h : Room (k + 1) A) : Room (k + 1) A := h
/-- what a def with a star parameter binds -/
def StarBinds (x qual : Str) (st : Stmt) (ps : List Str) (pv : Str) : Prop := ∀ (kV doc pm : Value) (an : Option Addr) (cdv ct : Value) (us rest : List Value), us.length = ps.length →
  bindArgs (PySem.W.fnOf x qual (defArgs st) (defBody st) (defScope st) .none kV doc pm an cdv ct) ⟨us ++ rest, []⟩ = (newTuple rest >>= fun t => pure (ps.zip us ++ [(pv, t)]))
theorem bind_s0 {B : List Value → Sem (List (Str × Value))} {pv : Str} (h0 : B [] = (newTuple [] >>= fun t => pure [(pv, t)])) (h1 : ∀ r rs, B (r :: rs) = (newTuple (r :: rs) >>= fun t => pure [(pv, t)])) : ∀ us rest : List Value, us.length = ([] : List Str).length → B (us ++ rest) = (newTuple rest >>= fun t => pure (([] : List Str).zip us ++ [(pv, t)]))
  | [], [], _ => h0
  | [], r :: rs, _ => h1 r rs
section
variable {P : Program} {w : World} {K : PySem.W.Frag} {mg : Str → Option Value} {base : Heap} {x qual : Str} {st : Stmt} {f : Addr} {fd : FuncData} {N ps : List Str} {k n : Nat} {sb : SD} {pv : Str}
theorem lks_fn (F : Fun K x qual st f fd) (hm : mg x = some (.ref f)) (S : FnScope N (ps ++ [pv]) (defScope st)) (hn : ps.length = n) (hb : StarBinds x qual st ps pv)
    (body : ∀ (cdv : Value) (A : Around) (outer : List Env) (s : Shared) (H : Hp) (E : XK), A.guards = some [] → Room k (A.deeper (envOfC qual (defScope st) s.heap.objs.size f cdv)) → PSs (cxOf (L2.CX P w) P w K mg base N qual (defScope st) f cdv A outer s H E).nox (defBody st) (tS K DL.E0 sb)) :
    LkS P w K mg base (k + 1) x n (mkFn (n + 1) N.length sb) := by
  obtain ⟨oc, od, kV, doc, pm, an, cdv, ct, osl, rfl, lk, hcd⟩ := F.ex
  refine ⟨f, hm, F.kp, fun A outer s H us vs Q E hgd hr e0 r hsp => ?_⟩
  obtain ⟨W, S0, ds, R, hvs, h1, h2, q⟩ := hsp
  have hlen := hvs.length
  obtain ⟨u1, u2, eu, r1, r2⟩ := StX.vals_split (ws := vs.take n) (rest := vs.drop n) (by rw [List.take_append_drop]; exact r)
  subst eu
  have hn0 : H s.heap.objs.size = none := e0.hok.fresh (Nat.le_refl _)
  have l1 : u1.length = ps.length := by rw [← r1.length, List.length_take]; omega
  have lr : (vs.drop n).length ≤ sizeLine := by rw [List.length_drop, sizeLine_eq]; omega
  have l2 : u2.length ≤ sizeLine := by rw [← r2.length]; exact lr
  refine StX.run_bnd lk hcd S hr e0 (G := fun xs H2 => ∃ p o, H p = none ∧ o.cls = .type "tuple" ∧ o.dict = none ∧ xs = vs.take n ++ [V.ref p] ∧ H2 = upd H p (.frz o (.tup (vs.drop n)))) (fun A' Ex Q' h => ?_) fun s2 H2 xs ⟨p, o, hp, ho1, ho2, ex, eH⟩ hr' => ?_
  · rw [hb kV doc pm an cdv ct u1 u2 l1]
    refine wpAny_bind (wpAny_newTuple (wpAny_pure ?_) l2)
    have hpush : (s.heap.push ({ cls := .type "tuple", data := .seq u2.toArray } : Obj)).get? s.heap.objs.size = some { cls := .type "tuple", data := .seq u2.toArray } := Heap.get?_push_size _ rfl
    have new : ObjOk P w (upd H s.heap.objs.size (.frz { cls := .type "tuple", data := .seq u2.toArray } (.tup (vs.drop n)))) (s.heap.push ({ cls := .type "tuple", data := .seq u2.toArray } : Obj)) s.heap.objs.size (.frz { cls := .type "tuple", data := .seq u2.toArray } (.tup (vs.drop n))) :=
      ⟨hpush, lr, u2, r2, ⟨_, hpush, rfl, _, rfl⟩⟩
    have un := StX.un_laid (fs := frs outer) (s := s) (o := ({ cls := .type "tuple", data := .seq u2.toArray } : Obj)) (u := .frz { cls := .type "tuple", data := .seq u2.toArray } (.tup (vs.drop n))) hn0
    have z := h _ _ (vs.take n ++ [V.ref s.heap.objs.size]) (u1 ++ [Value.ref s.heap.objs.size]) (StX.env0_laid e0 new) un rfl (fun e s' => StX.cxUp outer s H _ _ E e s' un (fun b o q => Heap.get?_push_of_some _ q) rfl) (r1.append (.cons rfl .nil))
      (by rw [List.length_append, List.length_append, List.length_take, List.length_singleton, List.length_singleton]; omega) ⟨_, _, hn0, rfl, rfl, rfl, rfl⟩
    rw [List.zip_append l1.symm] at z
    exact z
  · subst ex eH
    refine ⟨_, (body cdv A outer s2 _ E hgd hr').nox, ?_⟩
    have g : Grow W H W (upd H p (.frz o (.tup (vs.drop n)))) := Fok.new R.fok hp
    have hvs2 : IsDs K W (upd H p (.frz o (.tup (vs.drop n)))) (vs.take n ++ [V.ref p]) (packD n ds) := by
      refine ((hvs.take n).lat g.lat).append (.cons (.tup (TupR.new ho1 ho2) (by rw [List.length_drop, sizeLine_eq]; omega) ((hvs.drop n).lat g.lat)) .nil)
    have lp : (packD n ds).length = n + 1 := by unfold packD; rw [List.length_append, List.length_take, List.length_singleton]; omega
    obtain ⟨R1, no⟩ := start_rel (N := N) (g.rel R) hvs2
    refine ⟨W, _, R1, ?_⟩
    unfold mkFn at q
    rw [if_pos lp, ← lp] at q
    have ext0 : ∀ {W' H' σ' r'}, Ext W (upd H p (.frz o (.tup (vs.drop n)))) (L2.start N (vs.take n ++ [V.ref p])) ((packD n ds).map Slot.val ++ List.replicate (N.length - (packD n ds).length) .non) W' H' σ' r' → Ext W H [] [] W' H' [] [] := fun {W' H' σ' r'} X =>
      (g.ext (σ := []) (r := [])).trans ⟨X.f, fun a h => by
        rcases X.fn a h with h | h | h
        · exact .inl h
        · exact .inr (.inl h)
        · exact absurd h (no a), X.l, fun a o h hl _ => X.keep a o h hl (no a), X.dom, fun a h => .inl h⟩
    cases e : sb ⟨(packD n ds).map Slot.val ++ List.replicate (N.length - (packD n ds).length) .non, S0⟩ with
    | nx s1 =>
      rw [e] at q
      exact fun σ' W' H' R' X' => q .non W' H' R'.bare (ext0 X') .non
    | rt d s1 =>
      rw [e] at q
      exact fun σ' W' H' v R' X' hv => q v W' H' R'.bare (ext0 X') hv
    | bk s1 => rw [e] at q; exact q.elim
    | ct s1 => rw [e] at q; exact q.elim
    | ex c s1 => rw [e] at q; exact q.elim
    | bad => rw [e] at q; exact q.elim
end
section
variable {n : Nat} {m : FD} {fl : EL} {fa : ED} {C : PyData → Sta → Prop} {D : List PyData → Sta → Prop} {st : Sta}
@[simp] theorem wp_callS : (eCallS n m fl st).wp C ↔ (fl st).wp fun ds s => (n ≤ ds.length ∧ ds.length ≤ 16777216) ∧ (m (packD n ds) s.s).wp fun d S => C d { s with s := S } := by
  unfold eCallS
  rw [wp_bind]
  refine ⟨fun h => wp_mono h fun x s z => ?_, fun h => wp_mono h fun x s ⟨q, z⟩ => ?_⟩
  · split at z
    · rename_i q
      refine ⟨q, ?_⟩
      cases e : m (packD n x) s.s <;> rw [e] at z <;> exact z
    · exact z.elim
  · rw [if_pos q]
    cases e : m (packD n x) s.s <;> rw [e] at z <;> exact z
@[simp] theorem wp_starAll : (eStarAll fa st).wp D ↔ (fa st).wp fun y s => ∃ ys, itemsOf y = some ys ∧ D ys s := by
  unfold eStarAll
  rw [wp_bind]
  refine ⟨fun h => wp_mono h fun x s z => ?_, fun h => wp_mono h fun x s ⟨ys, e, z⟩ => by rw [e]; exact z⟩
  cases e : itemsOf x with
  | none => rw [e] at z; exact z.elim
  | some ys => rw [e] at z; exact ⟨_, rfl, z⟩
end
theorem u1 {k : Nat} {A : Around} (r : Room k A) : A.units + 1 < cLine := by have := r.un; omega
end DL
/-! DV: t[::-1] of a tuple; keyword-only arguments. -/
namespace DL
open PySem PySem.Spec PyProof.Rows L2
section
variable {prog : Program} {w : World} {A : Around} {E : Value → Shared → Prop} {s : Shared}
theorem adjust_rev (n : Nat) : Builtin.Slice.sliceAdjust none none (-1) (n : Int) = ((n : Int) - 1, -1) := rfl
theorem places_rev (n : Nat) : Builtin.Slice.slicePlaces ((n : Int) - 1) (-1) (-1) = n := by
  unfold Builtin.Slice.slicePlaces
  have h1 : ¬ ((-1 : Int) > 0) := by decide
  rw [if_neg h1]
  by_cases h : (n : Int) - 1 > -1
  · rw [if_pos h, show (-(-1) : Int) = 1 by decide, Int.ediv_one]; omega
  · rw [if_neg h]; omega
theorem pick_rev (xs : Array Value) : ((List.range xs.size).filterMap fun (k : Nat) => xs[(((xs.size : Int) - 1) + (k : Int) * (-1)).toNat]?).toArray = xs.toList.reverse.toArray := by
  rw [← PySem.W.krv_pick]
  unfold slicePick
  rw [PySem.W.krv_bounds]
  show _ = ((sliceRange ((xs.size : Int) - 1) (-1) (-1)).filterMap (xs[·]?)).toArray
  rw [PySem.W.krv_sliceRange, List.filterMap_map]
  have e : (fun (k : Nat) => xs[(((xs.size : Int) - 1) + (k : Int) * (-1)).toNat]?) = (xs[·]?) ∘ fun k => xs.size - 1 - k := by
    funext k
    show xs[(((xs.size : Int) - 1) + (k : Int) * (-1)).toNat]? = xs[xs.size - 1 - k]?
    rw [show (((xs.size : Int) - 1) + (k : Int) * (-1)).toNat = xs.size - 1 - k by omega]
  rw [e]
theorem sliceApplied_rev {sl : Addr} {vs : Value} {n : Nat} {Q : Int × Int × Nat → Shared → Prop} (hs : s.heap.IsSliceOf sl .none .none vs) (ps : IsPart vs (some (-1)))
    (h : Q ((n : Int) - 1, -1, n) s) : wpAny (model prog w) A (Builtin.Slice.sliceApplied (.ref sl) (pure (n : Int))) Q E s := by
  obtain ⟨os, hos, hcs, hds⟩ := id hs
  unfold Builtin.Slice.sliceApplied Builtin.Slice.sliceFields
  refine wpAny_bind (wpAny_bind (wpAny_field hos hds (x := .none) rfl (wpAny_bind (wpAny_field hos hds (x := .none) rfl (wpAny_bind (wpAny_field hos hds (x := vs) rfl (wpAny_pure ?_)))))))
  refine wpAny_bind (HT.slicePart_ ps ?_)
  show wpAny _ _ (if ((-1 : Int) == 0) = true then _ else _) _ _ s
  rw [if_neg (by decide)]
  refine wpAny_bind (slicePart_none (wpAny_bind (slicePart_none (wpAny_bind (wpAny_pure ?_)))))
  show wpAny _ _ (match Builtin.Slice.sliceAdjust none none (-1) (n : Int) with | (lo, hi) => pure (lo, (-1 : Int), Builtin.Slice.slicePlaces lo hi (-1))) _ _ s
  rw [adjust_rev]
  show wpAny _ _ (pure ((n : Int) - 1, (-1 : Int), Builtin.Slice.slicePlaces ((n : Int) - 1) (-1) (-1))) _ _ s
  rw [places_rev]
  exact wpAny_pure h
theorem getItem_tuple_rev {t sl : Addr} {items : Array Value} {vs : Value} {Q : Value → Shared → Prop} (ht : IsTup s.heap t items) (hs : s.heap.IsSliceOf sl .none .none vs) (ps : IsPart vs (some (-1)))
    (h : Q (.ref s.heap.objs.size) { s with heap := s.heap.push { cls := .type "tuple", data := .seq items.toList.reverse.toArray } })
    (hsz : items.size ≤ sizeLine) : wpAny (model prog w) A (getItem (.ref t) (.ref sl)) Q E s := by
  have htake : sizeOk (.seq items.toList.reverse.toArray) := by
    show items.toList.reverse.toArray.size ≤ sizeLine
    rw [List.size_toArray, List.length_reverse, Array.length_toList]
    omega
  obtain ⟨os, hos, hcs, hds⟩ := id hs
  have hTs : s.TypeIs (.ref sl) "slice" := ⟨os, hos, hcs⟩
  unfold getItem
  try with_reducible refine wpAny_holding ?_
  first | refine wpAny_bind (wpAny_pure ?_) | skip
  refine wpAny_bind (wpAny_sequenceKey ht.typeIs (by decide) ?_)
  refine wpAny_bind (wpAny_callSpecial?_slot (name := Str.ofString "__getitem__") ht.typeIs PyProof.Rows.slot_tuple_getitem
    (wpAny_call_entry PyProof.Rows.slot_tuple_getitem ht.typeIs entry_tuple_getitem ?_ (args_tuple_getitem _ _)))
  show wpAny _ _ (Builtin.Tuple.tupleItemsOf (.ref t) >>= _) _ _ s
  refine wpAny_bind (tupleItemsOf_ ht ?_)
  refine wpAny_bind (wpAny_typeOf hTs ?_)
  rw [if_pos (by decide)]
  refine wpAny_bind (sliceApplied_rev hs ps ?_)
  show wpAny _ _ (if (((items.size : Int) - 1 == 0) && ((-1 : Int) == 1) && (items.size == items.size)) = true then _ else _) _ _ s
  rw [if_neg (by rw [show ((-1 : Int) == 1) = false from rfl, Bool.and_false, Bool.false_and]; exact Bool.false_ne_true), pick_rev]
  first
    | exact wpAny_bind (m := Builtin.Tuple.tupleExact _) (wpAny_newObj_type (wpAny_pure ⟨_, rfl, wpAny_pure h⟩) htake)
    | exact wpAny_bind (m := Builtin.Tuple.tupleExact _) (wpAny_newObj_type (wpAny_bind (wpAny_pure (wpAny_pure ⟨_, rfl, wpAny_pure h⟩))) htake)
    | exact wpAny_bind (wpAny_bind (m := Builtin.Tuple.tupleExact _) (wpAny_newObj_type (wpAny_pure (wpAny_pure ⟨_, rfl, wpAny_pure h⟩)) htake))
    | exact wpAny_bind (wpAny_bind (m := Builtin.Tuple.tupleExact _) (wpAny_newObj_type (wpAny_pure ⟨_, rfl, wpAny_pure h⟩) htake))
end
def tRevT (K : PySem.W.Frag) (te : TE) : TE := fun σ H Q => te σ H fun x H1 => ∃ a xs, x = .ref a ∧ SqT K H1 a xs ∧ ∀ p o, H1 p = none → o.cls = .type "tuple" → o.dict = none → Q (.ref p) (upd H1 p (.frz o (.tup xs.reverse)))
section
variable {X : Cx} {E : EX} {e : Expr} {fa : ED}
theorem pe_revT {te : TE} {k : Nat} {p1 p2 p3 pos : Pos} (he : PE X e te) : PE X (.Subscript e (.Slice none none (some (.UnaryOp .USub (.Constant (.int 1) k p1) p2)) p3) pos) (tRevT X.K te) := by
  refine ⟨fun pins s σ H Q I h => ?_⟩
  refine Subscript_ (thn (he.run pins s σ H _ I h) fun v s1 ⟨x, H1, I1, r1, q1⟩ => ?_)
  obtain ⟨a, xs, ex, hx, q⟩ := q1
  subst ex
  cases r1
  have hst : PO X (some (.UnaryOp .USub (.Constant (.int 1) k p1) p2)) (tPart (tUn (rU fun i => .int (-i)) (tC (.int 1)))) := po_some (pe_un un_neg pe_int)
  refine wpAny_Slice (thn (po_none.run pins s1 σ H1 (fun o H2 => o = none ∧ H2 = H1) I1 ⟨rfl, rfl⟩) fun vl s2 ⟨l, H2, I2, pl, el, e2⟩ => ?_)
  subst el e2
  refine thn (po_none.run pins s2 σ H2 (fun o H3 => o = none ∧ H3 = H2) I2 ⟨rfl, rfl⟩) fun vu s3 ⟨u, H3, I3, pu, eu, e3⟩ => ?_
  subst eu e3
  refine thn (hst.run pins s3 σ H3 (fun o H4 => o = some (-1) ∧ H4 = H3) I3 ⟨1, rfl, -1, rfl, rfl, rfl⟩) fun vs s4 ⟨o, H4, I4, ps, eo, e4⟩ => ?_
  subst eo e4
  cases pl
  cases pu
  have I5 : Inv X pins σ H4 { s4 with heap := s4.heap.push { cls := .type "slice", data := .fields #[.none, .none, vs] } } := I4.kept (t' := s4.toks) fun b ob q => Heap.get?_push_of_some _ q
  obtain ⟨its, r, ht, hz⟩ := I5.tuple hx
  show wpAny (model X.prog X.w) X.A (subscriptTail e (.Slice none none (some (.UnaryOp .USub (.Constant (.int 1) k p1) p2)) p3) (.ref a) (.ref s4.heap.objs.size)) (EP X pins σ Q) X.xe { s4 with heap := s4.heap.push { cls := .type "slice", data := .fields #[.none, .none, vs] } }
  refine tail_any (ops := [.ref a, .ref s4.heap.objs.size]) ht.typeIs (PyProof.Rows.slot_tuple_getitem.lookup) ?_ (by with_unfolding_all rfl)
  refine getItem_tuple_rev ht (Heap.IsSliceOf.new _ .none .none vs) ps ?_ (by rw [List.size_toArray, ← r.length]; exact hz)
  exact ⟨.ref _, _, I5.laid (t' := s4.toks) (o := .frz { cls := .type "tuple", data := .seq its.reverse.toArray } (.tup xs.reverse)) (fun b ob q => Heap.get?_push_of_some _ q) (Nat.le_refl _)
    ⟨Heap.get?_push_size _ rfl, by rw [List.length_reverse]; exact hz, _, r.reverse, IsTup.new _ _⟩, rfl, q _ _ (I5.hok.fresh (Nat.le_refl _)) rfl rfl⟩
/-- the tuple turned round -/
def eRevT (fa : ED) : ED := fun st => (fa st).bind fun x s1 => match x with
  | .tuple ys => .ok (.tuple ys.reverse) s1
  | _ => .bad
theorem isds_rev {K : PySem.W.Frag} {W : Wd} {H : Hp} : ∀ {xs : List V} {ys : List PyData}, IsDs K W H xs ys → IsDs K W H xs.reverse ys.reverse
  | _, _, .nil => .nil
  | _, _, .cons h hs => by
    rw [List.reverse_cons, List.reverse_cons]
    exact (isds_rev hs).append (.cons h .nil)
theorem de_revT {k : Nat} {p1 p2 p3 pos : Pos} (he : PE X e (tD X.K E fa)) : PE X (.Subscript e (.Slice none none (some (.UnaryOp .USub (.Constant (.int 1) k p1) p2)) p3) pos) (tD X.K E (eRevT fa)) := by
  refine pe_imp (pe_revT he) fun σ H Q ⟨W, st, R, h⟩ => ?_
  refine tD_of R (h.then.imp fun x s1 W1 H1 _ R1 X1 h1 v hv => ?_)
  cases x with
  | tuple ys =>
    cases hv with
    | @tup p xs _ f z hs =>
      refine ⟨p, xs, rfl, f.sq, fun q o hq hc hd => ?_⟩
      have g := Fok.new (p := q) (o := .frz o (.tup xs.reverse)) R1.fok hq
      exact h1 _ _ (g.rel R1) g.ext _ (.tup (TupR.new hc hd) (by rw [List.length_reverse]; exact z) ((isds_rev hs).lat g.lat))
  | _ => exact h1.elim
end
section
variable {fa : ED} {st : Sta} {C : PyData → Sta → Prop}
@[simp] theorem wp_revT : (eRevT fa st).wp C ↔ (fa st).wp fun x s => ∃ ys, x = .tuple ys ∧ C (.tuple ys.reverse) s := by
  unfold eRevT
  rw [wp_bind]
  refine ⟨fun h => wp_mono h fun x s z => ?_, fun h => wp_mono h fun x s ⟨n, e, z⟩ => by subst e; exact z⟩
  cases x <;> first | exact ⟨_, rfl, z⟩ | exact z.elim
end
end DL
/-! EA: what runs while generators sleep leaves them as they are. -/
namespace DL
open PySem PySem.Spec PyProof.Rows
open Sem (wp)
/-- asleep, or at work further out -/
def susp : GenState → Bool
  | .suspended .. => true
  | .running => true
  | _ => false
/-- a sleeping generator that can't go on; it looks alike -/
def stuck : GenState → GenState
  | .suspended _ l c p fs cl => .suspended (fun _ => .unsupported "") l c p fs cl
  | x => x
theorem stuck_seen (x : GenState) : (stuck x).seen = x.seen := by cases x <;> rfl
theorem stuck_bare (x : GenState) : (stuck x).bare = x.bare := by cases x <;> rfl
theorem stuck_susp (x : GenState) : susp (stuck x) = susp x := by cases x <;> rfl
def isGenF : Frame → Bool
  | .gen .. => true
  | _ => false
/-- no frame of a generator's -/
def NoG (fs : List Frame) : Prop := ∀ f ∈ fs, isGenF f = false
theorem NoG.nil : NoG [] := fun _ h => by cases h
theorem NoG.tail {f : Frame} {fs : List Frame} (h : NoG (f :: fs)) : NoG fs := fun x hx => h x (List.mem_cons_of_mem _ hx)
theorem NoG.append {a b : List Frame} (h : NoG a) (h' : NoG b) : NoG (a ++ b) := fun x hx => (List.mem_append.mp hx).elim (h x) (h' x)
theorem NoG.split : ∀ {fs : List Frame}, NoG fs → splitAtGen fs = none
  | [], _ => rfl
  | .ret .. :: fs, h => by
    show (splitAtGen fs).map _ = none
    rw [h.tail.split]; rfl
  | .gen .. :: fs, h => by have := h _ List.mem_cons_self; cases this
def FineG : GenState → Prop
  | .suspended _ _ _ _ fs _ => NoG fs
  | _ => True
def FineE : End → Prop
  | .ret _ => True
  | .susp _ _ _ _ _ _ fs => NoG fs
theorem FineE.gen {e : End} (h : FineE e) : FineG e.genState := by cases e <;> exact h
/-- the generators of G that sleep: stuck in a, as they are in b; the others alike -/
structure Kp (G a b : Array GenState) : Prop where
  sz : a.size = b.size
  old : ∀ (i : Nat) (x : GenState), G[i]? = some x → susp x = true → a[i]? = some (stuck x) ∧ b[i]? = some x
  new : ∀ (i : Nat), (∀ x, G[i]? = some x → susp x = false) → a[i]? = b[i]? ∧ ∀ y, a[i]? = some y → FineG y
theorem Kp.cases (G : Array GenState) (i : Nat) : (∃ x, G[i]? = some x ∧ susp x = true) ∨ ∀ x, G[i]? = some x → susp x = false := by
  cases h : G[i]? with
  | none => exact .inr fun x e => by cases e
  | some x =>
    cases q : susp x with
    | true => exact .inl ⟨x, rfl, q⟩
    | false => exact .inr fun y e => by cases e; exact q
theorem Kp.mk0 (G : Array GenState) : Kp G (G.map stuck) G where
  sz := Array.size_map
  old := fun i x e _ => ⟨by rw [Array.getElem?_map, e]; rfl, e⟩
  new := fun i h => by
    rw [Array.getElem?_map]
    cases e : G[i]? with
    | none => exact ⟨rfl, fun y q => by cases q⟩
    | some x =>
      have := h x e
      refine ⟨(by cases x <;> first | rfl | (exact absurd this (by decide)) | cases this), fun y q => ?_⟩
      cases x <;> first | (cases q; trivial) | cases this
section
variable {G a b : Array GenState}
theorem Kp.set (h : Kp G a b) {g : Nat} {y : GenState} (hn : ∀ x, G[g]? = some x → susp x = false) (hy : FineG y) : Kp G (a.setIfInBounds g y) (b.setIfInBounds g y) where
  sz := by rw [Array.size_setIfInBounds, Array.size_setIfInBounds]; exact h.sz
  old := fun i x e q => by
    have ne : g ≠ i := fun z => by subst z; rw [hn x e] at q; cases q
    rw [Array.getElem?_setIfInBounds_ne ne, Array.getElem?_setIfInBounds_ne ne]
    exact h.old i x e q
  new := fun i hi => by
    by_cases z : g = i
    · subst z
      obtain ⟨h1, h2⟩ := h.new g hi
      rw [Array.getElem?_setIfInBounds, Array.getElem?_setIfInBounds, h.sz, if_pos rfl, if_pos rfl]
      refine ⟨rfl, fun u hu => ?_⟩
      split at hu
      · cases hu; exact hy
      · cases hu
    · rw [Array.getElem?_setIfInBounds_ne z, Array.getElem?_setIfInBounds_ne z]
      exact h.new i hi
theorem Kp.push (h : Kp G a b) (c : Code) : Kp G (a.push (.fresh c)) (b.push (.fresh c)) where
  sz := by rw [Array.size_push, Array.size_push, h.sz]
  old := fun i x e q => by
    obtain ⟨h1, h2⟩ := h.old i x e q
    have l1 := (Array.getElem?_eq_some_iff.mp h1).1
    have l2 := (Array.getElem?_eq_some_iff.mp h2).1
    rw [Array.getElem?_push_lt l1, Array.getElem?_push_lt l2, ← Array.getElem?_eq_getElem l1, ← Array.getElem?_eq_getElem l2]
    exact ⟨h1, h2⟩
  new := fun i hi => by
    obtain ⟨h1, h2⟩ := h.new i hi
    rw [Array.getElem?_push, Array.getElem?_push, h.sz]
    refine ⟨by split <;> first | rfl | exact h1, fun y hy => ?_⟩
    split at hy
    · cases hy; trivial
    · exact h2 y hy
theorem Kp.seen (h : Kp G a b) {g : Nat} {y : GenState} (e : a[g]? = some y) : ∃ z, b[g]? = some z ∧ z.seen = y.seen := by
  rcases Kp.cases G g with ⟨x, hx, q⟩ | hn
  · obtain ⟨h1, h2⟩ := h.old g x hx q
    rw [e] at h1
    cases h1
    exact ⟨x, h2, (stuck_seen x).symm⟩
  · exact ⟨y, (h.new g hn).1 ▸ e, rfl⟩
theorem Kp.bare (h : Kp G a b) (ha : AllBare a) : AllBare b := fun y hy => by
  obtain ⟨i, hi, e⟩ := Array.mem_iff_getElem.mp hy
  have e' : b[i]? = some y := by rw [Array.getElem?_eq_getElem hi, e]
  rcases Kp.cases G i with ⟨x, hx, q⟩ | hn
  · obtain ⟨h1, h2⟩ := h.old i x hx q
    rw [e'] at h2
    cases h2
    rw [← stuck_bare]
    exact ha _ (Array.mem_of_getElem? h1)
  · exact ha _ (Array.mem_of_getElem? ((h.new i hn).1.trans e'))
theorem Kp.atwork (h : Kp G a b) {g : Nat} (e : a[g]? = some .running) : b[g]? = some .running := by
  rcases Kp.cases G g with ⟨x, hx, q⟩ | hn
  · obtain ⟨h1, h2⟩ := h.old g x hx q
    rw [e] at h1
    cases x <;> first | (cases h1; done) | exact h2
  · exact (h.new g hn).1 ▸ e
/-- what is not stuck is alike -/
theorem Kp.get (h : Kp G a b) {g : Nat} {y : GenState} (e : a[g]? = some y) (hy : ∀ x, y ≠ stuck x ∨ susp x = false) : b[g]? = some y ∧ (∀ x, G[g]? = some x → susp x = false) ∧ FineG y := by
  rcases Kp.cases G g with ⟨x, hx, q⟩ | hn
  · have := (h.old g x hx q).1
    rw [e] at this
    cases this
    rcases hy x with z | z
    · exact absurd rfl z
    · rw [z] at q; cases q
  · obtain ⟨h1, h2⟩ := h.new g hn
    exact ⟨h1 ▸ e, hn, h2 y e⟩
theorem not_stuck {y : GenState} (h : susp y = false) : ∀ x, y ≠ stuck x ∨ susp x = false := fun x => by
  cases q : susp x with
  | false => exact .inr rfl
  | true => exact .inl fun e => by rw [e, stuck_susp, q] at h; cases h
end
theorem no_run {M : Model} {Γ : PySem.Ctx} {p : Pos} {t : Sem PySem.Fin} {fs : List Frame} {s s' : Shared} {e : End} (h : Runs M Γ p t fs s e s') : ∀ {v : String}, t = .unsupported v → False := by
  induction h <;> intro v q <;> first | (cases q; done) | (subst q; rename_i ih; exact ih rfl) | (subst q; rename_i ih _; exact ih rfl)
/-- THE FRAME: a run goes on alike -/
theorem frame_runs {M : Model} {G : Array GenState} {Γ : PySem.Ctx} {p : Pos} {t : Sem PySem.Fin} {fs : List Frame} {s s' : Shared} {e : End} (h : Runs M Γ p t fs s e s') :
    NoG fs → ∀ b, Kp G s.gens b → ∃ b', Kp G s'.gens b' ∧ FineE e ∧ Runs M Γ p t fs { s with gens := b } e { s' with gens := b' } := by
  induction h with
  | done => exact fun _ b k => ⟨b, k, trivial, .done⟩
  | raise => exact fun _ b k => ⟨b, k, trivial, .raise⟩
  | again hq _ ih => intro _ b k; obtain ⟨b', k', f, r⟩ := ih .nil b k; exact ⟨b', k', f, .again hq r⟩
  | rule _ ih => intro _ b k; obtain ⟨b', k', f, r⟩ := ih .nil b k; exact ⟨b', k', f, .rule r⟩
  | «at» _ ih => intro _ b k; obtain ⟨b', k', f, r⟩ := ih .nil b k; exact ⟨b', k', f, .at r⟩
  | load ho _ ih => intro _ b k; obtain ⟨b', k', f, r⟩ := ih .nil b k; exact ⟨b', k', f, .load ho r⟩
  | update ho _ ih => intro _ b k; obtain ⟨b', k', f, r⟩ := ih .nil b k; exact ⟨b', k', f, .update ho r⟩
  | loadIfAlive _ ih => intro _ b k; obtain ⟨b', k', f, r⟩ := ih .nil b k; exact ⟨b', k', f, .loadIfAlive r⟩
  | point _ ih => intro _ b k; obtain ⟨b', k', f, r⟩ := ih .nil b k; exact ⟨b', k', f, .point r⟩
  | alloc _ ih => intro _ b k; obtain ⟨b', k', f, r⟩ := ih .nil b k; exact ⟨b', k', f, .alloc r⟩
  | fresh _ ih => intro _ b k; obtain ⟨b', k', f, r⟩ := ih .nil b k; exact ⟨b', k', f, .fresh r⟩
  | ask _ ih => intro _ b k; obtain ⟨b', k', f, r⟩ := ih .nil b k; exact ⟨b', k', f, .ask r⟩
  | choose hn _ ih => intro _ b k; obtain ⟨b', k', f, r⟩ := ih .nil b k; exact ⟨b', k', f, .choose hn r⟩
  | os _ ih => intro _ b k; obtain ⟨b', k', f, r⟩ := ih .nil b k; exact ⟨b', k', f, .os r⟩
  | handled _ ih => intro _ b k; obtain ⟨b', k', f, r⟩ := ih .nil b k; exact ⟨b', k', f, .handled r⟩
  | stack _ ih => intro _ b k; obtain ⟨b', k', f, r⟩ := ih .nil b k; exact ⟨b', k', f, .stack r⟩
  | thread _ ih => intro _ b k; obtain ⟨b', k', f, r⟩ := ih .nil b k; exact ⟨b', k', f, .thread r⟩
  | genState hg _ ih =>
    intro _ b k
    obtain ⟨b', k', f, r⟩ := ih .nil b k
    obtain ⟨st', h2, e⟩ := k.seen hg
    rw [← e] at r
    exact ⟨b', k', f, .genState h2 r⟩
  | newGen _ ih =>
    intro _ b k
    obtain ⟨b', k', f, r⟩ := ih .nil _ (k.push _)
    rw [k.sz] at r
    exact ⟨b', k', f, .newGen r⟩
  | call _ _ ih1 ih2 =>
    intro _ b k
    obtain ⟨b1, k1, _, r1⟩ := ih1 .nil b k
    obtain ⟨b2, k2, f2, r2⟩ := ih2 .nil b1 k1
    exact ⟨b2, k2, f2, .call r1 r2⟩
  | callSusp _ ih =>
    intro _ b k
    obtain ⟨b', k', f, r⟩ := ih .nil b k
    exact ⟨b', k', NoG.append f (fun x hx => by rw [List.mem_singleton.mp hx]; rfl), .callSusp r⟩
  | yield => exact fun _ b k => ⟨b, k, .nil, .yield⟩
  | resumeFresh hg _ hq _ ih1 ih2 =>
    intro _ b k
    obtain ⟨h1, hn, _⟩ := k.get hg (not_stuck rfl)
    obtain ⟨b1, k1, f1, r1⟩ := ih1 .nil _ (k.set hn trivial)
    obtain ⟨b2, k2, f2, r2⟩ := ih2 .nil _ (k1.set hn f1.gen)
    exact ⟨b2, k2, f2, .resumeFresh h1 r1 hq r2⟩
  | @resumeSuspended _ _ g _ _ _ _ k₀ l₀ c₀ p₀ fs cl _ _ _ _ hg h1 hq _ ih1 ih2 =>
    intro _ b k
    rcases Kp.cases G g with ⟨x, hx, q⟩ | hn
    · obtain ⟨e1, _⟩ := k.old g x hx q
      rw [hg] at e1
      cases x <;> first | (cases q; done) | (cases e1; done) | (cases e1; exact (no_run h1 rfl).elim)
    · obtain ⟨e1, e2⟩ := k.new g hn
      have e2 := e2 _ hg
      obtain ⟨b1, k1, f1, r1⟩ := ih1 e2 _ (k.set hn trivial)
      obtain ⟨b2, k2, f2, r2⟩ := ih2 .nil _ (k1.set hn f1.gen)
      exact ⟨b2, k2, f2, .resumeSuspended (e1 ▸ hg) r1 hq r2⟩
  | resumeJustStarted hg hv _ ih =>
    intro _ b k
    obtain ⟨h1, hn, _⟩ := k.get hg (not_stuck rfl)
    obtain ⟨b', k', f, r⟩ := ih .nil b k
    exact ⟨b', k', f, .resumeJustStarted h1 hv r⟩
  | resumeThrowFresh hg _ ih =>
    intro _ b k
    obtain ⟨h1, hn, _⟩ := k.get hg (not_stuck rfl)
    obtain ⟨b', k', f, r⟩ := ih .nil _ (k.set hn trivial)
    exact ⟨b', k', f, .resumeThrowFresh h1 r⟩
  | resumeRunning hg _ ih =>
    intro _ b k
    obtain ⟨b', k', f, r⟩ := ih .nil b k
    exact ⟨b', k', f, .resumeRunning (k.atwork hg) r⟩
  | resumeFinished hg _ ih =>
    intro _ b k
    obtain ⟨h1, hn, _⟩ := k.get hg (not_stuck rfl)
    obtain ⟨b', k', f, r⟩ := ih .nil b k
    exact ⟨b', k', f, .resumeFinished h1 r⟩
  | segRet _ _ ih1 ih2 =>
    intro n b k
    obtain ⟨b1, k1, _, r1⟩ := ih1 .nil b k
    obtain ⟨b2, k2, f2, r2⟩ := ih2 n.tail b1 k1
    exact ⟨b2, k2, f2, .segRet r1 r2⟩
  | segGen _ _ _ _ => intro n; have := n _ List.mem_cons_self; cases this
  | segSuspOut hs _ ih =>
    intro n b k
    obtain ⟨b', k', f, r⟩ := ih .nil b k
    exact ⟨b', k', NoG.append f n, .segSuspOut hs r⟩
  | segSuspGen hs _ _ _ _ _ => intro n; rw [n.split] at hs; cases hs
theorem frame_wakes {M : Model} {G : Array GenState} {Γ : PySem.Ctx} {p : Pos} {g : Nat} {r : Resume} {s s' : Shared} {res : GenResult} (h : Wakes M Γ p g r s res s') {b : Array GenState} (k : Kp G s.gens b) :
    ∃ b', Kp G s'.gens b' ∧ Wakes M Γ p g r { s with gens := b } res { s' with gens := b' } := by
  rcases Kp.cases G g with ⟨x, hx, q⟩ | hn
  · obtain ⟨h1, h2⟩ := k.old g x hx q
    unfold Wakes at h
    rw [h1] at h
    cases x with
    | suspended =>
      obtain ⟨e₁, s₁, hr, _⟩ := h
      exact (no_run hr rfl).elim
    | running =>
      obtain ⟨rfl, rfl⟩ := h
      refine ⟨b, k, ?_⟩
      unfold Wakes
      show (match b[g]? with | none => False | some (.fresh c) => _ | some (.suspended k₀ _ c₀ p₀ fs _) => _ | some .running => _ | some .finished => _)
      rw [h2]
      exact ⟨rfl, rfl⟩
    | fresh => cases q
    | finished => cases q
  · obtain ⟨e1, e2⟩ := k.new g hn
    unfold Wakes at h ⊢
    show ∃ b', Kp G s'.gens b' ∧ (match b[g]? with | none => _ | some (.fresh c) => _ | some (.suspended k₀ _ c₀ p₀ fs _) => _ | some .running => _ | some .finished => _)
    rw [← e1]
    cases hg : s.gens[g]? with
    | none => rw [hg] at h; exact h.elim
    | some y =>
      rw [hg] at h
      have fy := e2 y hg
      cases y with
      | fresh c =>
        cases r with
        | send v =>
          by_cases hv : v = .none
          · subst hv
            obtain ⟨e₁, s₁, hr, hq, h3, rfl⟩ := h
            obtain ⟨b1, k1, f1, r1⟩ := frame_runs hr .nil _ (k.set hn trivial)
            exact ⟨_, k1.set hn f1.gen, e₁, _, r1, hq, h3, rfl⟩
          · have : res = .justStarted ∧ s' = s := by cases v <;> first | exact absurd rfl hv | exact h
            obtain ⟨rfl, rfl⟩ := this
            refine ⟨b, k, ?_⟩
            cases v <;> first | exact absurd rfl hv | exact ⟨rfl, rfl⟩
        | throw x =>
          obtain ⟨h3, rfl⟩ := h
          exact ⟨_, k.set hn trivial, h3, rfl⟩
      | suspended k₀ l₀ c₀ p₀ fs cl =>
        obtain ⟨e₁, s₁, hr, hq, h3, rfl⟩ := h
        obtain ⟨b1, k1, f1, r1⟩ := frame_runs hr fy _ (k.set hn trivial)
        exact ⟨_, k1.set hn f1.gen, e₁, _, r1, hq, h3, rfl⟩
      | running => obtain ⟨h3, rfl⟩ := h; exact ⟨b, k, h3, rfl⟩
      | finished => obtain ⟨h3, rfl⟩ := h; exact ⟨b, k, h3, rfl⟩
theorem frame_wp {α : Type} {M : Model} {Γ : PySem.Ctx} {G : Array GenState} (t : Sem α) : ∀ (Q : α → Pos → Shared → Prop) (E : Value → Pos → Shared → Prop) (p : Pos) (s : Shared) (b : Array GenState), Kp G s.gens b → wp M Γ t Q E p s →
    wp M Γ t (fun a p' s' => ∃ a', Kp G a' s'.gens ∧ Q a p' { s' with gens := a' }) (fun e p' s' => ∃ a', Kp G a' s'.gens ∧ E e p' { s' with gens := a' }) p { s with gens := b } := by
  induction t with
  | pure a => intro Q E p s b k h; exact ⟨s.gens, k, h⟩
  | raise e => intro Q E p s b k h; exact ⟨s.gens, k, h⟩
  | unsupported _ => intro Q E p s b _ h; exact h
  | finish _ => intro Q E p s b _ h; exact h
  | rule _ k ih => intro Q E p s b hb h; exact ih () Q E p s b hb h
  | «at» p' k ih => intro Q E p s b hb h; exact ih () Q E p' s b hb h
  | load a _ k ih => intro Q E p s b hb h; obtain ⟨o, ho, h⟩ := h; exact ⟨o, ho, ih o Q E p s b hb h⟩
  | update a _ f k ih => intro Q E p s b hb h; exact ⟨h.1, ih () Q E p { s with heap := s.heap.update a f } b hb h.2⟩
  | loadIfAlive a k ih => intro Q E p s b hb h; exact ih _ Q E p s b hb h
  | point _ k ih => intro Q E p s b hb h; exact ih () Q E p s b hb h
  | register _ _ => intro Q E p s b _ h; exact h
  | alloc o k ih => intro Q E p s b hb h; exact ih _ Q E p { s with heap := s.heap.push o } b hb h
  | fresh k ih => intro Q E p s b hb h; exact ih _ Q E p { s with toks := s.toks + 1 } b hb h
  | ask k ih => intro Q E p s b hb h; exact ih _ Q E p s b hb h
  | choose src m k ih => intro Q E p s b hb h; exact ⟨h.1, ih _ Q E p { s with drawn := s.drawn.bump src } b hb h.2⟩
  | os q _ k ih => intro Q E p s b hb h; exact ih _ Q E p { s with os := (Os.step s.os q).1 } b hb h
  | call c hd _ _ k ih =>
    intro Q E p s b hb h
    obtain ⟨r, s', hr, h⟩ := h
    obtain ⟨b1, k1, _, r1⟩ := frame_runs hr .nil b hb
    exact ⟨r, _, r1, ih r Q E p s' b1 k1 h⟩
  | handled own k ih => intro Q E p s b hb h; exact ih _ Q E p s b hb h
  | genState g k ih =>
    intro Q E p s b hb h
    obtain ⟨st, hs, h⟩ := h
    obtain ⟨z, e1, e2⟩ := hb.seen hs
    refine ⟨z, e1, ?_⟩
    rw [e2]
    exact ih _ Q E p s b hb h
  | newGen c k ih =>
    intro Q E p s b hb h
    have := ih _ Q E p { s with gens := s.gens.push (.fresh c) } _ (hb.push c) h
    show wp M Γ (k b.size) _ _ p _
    rw [← hb.sz]
    exact this
  | resume g r _ k ih =>
    intro Q E p s b hb h
    obtain ⟨res, s', hw, h⟩ := h
    obtain ⟨b1, k1, w1⟩ := frame_wakes hw hb
    exact ⟨res, _, w1, ih res Q E p s' b1 k1 h⟩
  | yield _ _ _ _ => intro Q E p s b _ h; exact h
  | stack k ih => intro Q E p s b hb h; exact ih _ Q E p s b hb h
  | fork _ _ => intro Q E p s b _ h; exact h
  | thread k ih => intro Q E p s b hb h; exact ih _ Q E p s b hb h
  | await _ _ _ _ _ => intro Q E p s b _ h; exact h
/-- these generators sleep as they are -/
def Sleeps (G : Array GenState) (s : Shared) : Prop := ∀ (i : Nat) (x : GenState), G[i]? = some x → susp x = true → s.gens[i]? = some x
/-- THE RULE: what runs with all sleeping generators stuck, runs, and they sleep on -/
theorem wpAny_asleep {α : Type} {M : Model} {A : Around} {s : Shared} {t : Sem α} {Q : α → Shared → Prop} {E : Value → Shared → Prop}
    (h : wpAny M A t (fun a s0 => ∀ g, (AllBare s0.gens → AllBare g) → Sleeps s.gens { s0 with gens := g } → Q a { s0 with gens := g }) (fun e s0 => ∀ g, (AllBare s0.gens → AllBare g) → Sleeps s.gens { s0 with gens := g } → E e { s0 with gens := g }) { s with gens := s.gens.map stuck }) : wpAny M A t Q E s := fun Γ p hΓ => by
  have := frame_wp t _ _ p _ s.gens (Kp.mk0 s.gens) (h Γ p hΓ)
  refine Sem.wp_mono M Γ t (fun a p' s' ⟨a', k, q⟩ => ?_) (fun e p' s' ⟨a', k, q⟩ => ?_) p s this
  · exact q s'.gens k.bare fun i x e z => (k.old i x e z).2
  · exact q s'.gens k.bare fun i x e z => (k.old i x e z).2
theorem bare_stuck {G : Array GenState} (h : AllBare G) : AllBare (G.map stuck) := fun y hy => by
  obtain ⟨x, hx, rfl⟩ := Array.mem_map.mp hy
  rw [stuck_bare]
  exact h x hx
end DL
/-! EB: one segment of a generator's run, from its waking to where it hands out or ends. -/
namespace DL
open PySem PySem.Spec PyProof.Rows
open Sem (wp)
def Seg1 (M : Model) (A : Around) (Z : End → Shared → Prop) (c : Code) (t : Sem PySem.Fin) (fs : List Frame) (s : Shared) : Prop :=
  ∀ Γ p, Γ.code = c → Γ.Woken A → ∃ e s', Runs M Γ p t fs s e s' ∧ Z e s'
section
variable {M : Model} {A : Around} {Z Z' : End → Shared → Prop} {c : Code} {t : Sem PySem.Fin} {fs : List Frame} {s : Shared}
theorem Seg1.imp (h : Seg1 M A Z c t fs s) (i : ∀ e s', Z e s' → Z' e s') : Seg1 M A Z' c t fs s := fun Γ p a b => by
  obtain ⟨e, s', r, z⟩ := h Γ p a b
  exact ⟨e, s', r, i e s' z⟩
theorem s1_wrapE {α : Type} {m : Sem α} {K : α → Sem PySem.Fin} {H : Value → Sem PySem.Fin} {gd lv}
    (h : wpAny M (A.over c fs) m (fun a s' => Seg1 M A Z c (K a) fs s') (fun x s' => Seg1 M A Z c (H x) fs s') s) :
    Seg1 M A Z c (m.wrap K H gd lv) fs s := by
  rintro Γ p rfl hΓ
  exact runs_wrap_of_wp K H gd lv m (h (Γ.over fs) p (hΓ.over fs)) (fun a p' s' h' => h' Γ p' rfl hΓ) (fun x p' s' h' => h' Γ p' rfl hΓ)
theorem s1_wrap {α : Type} {m : Sem α} {K : α → Sem PySem.Fin} {H : Value → Sem PySem.Fin} {gd lv}
    (h : wpAny M (A.over c fs) m (fun a s' => Seg1 M A Z c (K a) fs s') (fun _ _ => False) s) :
    Seg1 M A Z c (m.wrap K H gd lv) fs s := s1_wrapE (wpAny_mono h (fun _ _ q => q) fun _ _ q => q.elim)
theorem s1_at {p' : Pos} {k : Unit → Sem PySem.Fin} (h : Seg1 M A Z c (k ()) fs s) : Seg1 M A Z c (.at p' k) fs s :=
  s1_wrap (m := standAt p') (K := k) (H := .raise) (gd := id) (lv := id) (wpAny_standAt h)
theorem s1_point {l : List Value} {k : Unit → Sem PySem.Fin} (h : Seg1 M A Z c (k ()) fs s) : Seg1 M A Z c (.point l k) fs s :=
  s1_wrap (m := point) (K := k) (H := .raise) (gd := id) (lv := fun _ => l) (wpAny_point h)
theorem s1_call {c' : Code} {h g l} {k : Result → Sem PySem.Fin} (hc : ∀ p, Seg1 M A Z c' (M.den c') (.ret k h g l c p [] :: fs) s) :
    Seg1 M A Z c (.call c' h g l k) fs s := by
  rintro Γ p rfl hΓ
  obtain ⟨e, s', hr, he⟩ := hc p (Γ.goto c') p rfl (hΓ.goto c')
  exact ⟨e, s', runs_call_seg hr, he⟩
theorem s1_leaf {k h g l c₁ p₁ kp} (r : Result) (hk : Seg1 M A Z c₁ (k r) fs s) : Seg1 M A Z c (leafOf r) (.ret k h g l c₁ p₁ kp :: fs) s := by
  rintro Γ p rfl hΓ
  obtain ⟨e, s', hr, he⟩ := hk (Γ.goto c₁) p₁ rfl (hΓ.goto c₁)
  exact ⟨e, s', Runs.pop r hr, he⟩
theorem s1_again {c' : Code} (hq : c'.quiet = true) (hc : Seg1 M A Z c' (M.den c') fs s) : Seg1 M A Z c (.pure (.again c')) fs s := by
  rintro Γ p rfl hΓ
  obtain ⟨e, s', hr, he⟩ := hc (Γ.goto c') p rfl (hΓ.goto c')
  exact ⟨e, s', Runs.head (c₁ := c') (fun _ _ x => .again hq x) hr, he⟩
theorem s1_end (r : Result) (h : Z (.ret r) s) : Seg1 M A Z c (leafOf r) [] s := by
  rintro Γ p rfl _
  exact ⟨.ret r, s, Runs.leaf r, h⟩
theorem s1_yield {v g l} {k : Resume → Sem PySem.Fin} (hfs : splitAtGen fs = none) (h : ∀ p, Z (.susp v g l k c p fs) s) : Seg1 M A Z c (.yield v g l k) fs s := by
  rintro Γ p rfl _
  exact ⟨_, s, Runs.yield' fs hfs, h p⟩
end
/-- a generator's state goes on with r: its next segment -/
def Goes1 (M : Model) (A : Around) (Z : End → Shared → Prop) (gs : GenState) (r : Resume) (s : Shared) : Prop :=
  match gs with
  | .fresh c => r = .send .none ∧ Seg1 M A Z c (M.den c) [] s
  | .suspended k _ c _ fs _ => Seg1 M A Z c (k r) fs s
  | _ => False
theorem wpAny_resume1 {M : Model} {A : Around} {Z : End → Shared → Prop} {E : Value → Shared → Prop} {s : Shared} {g : Nat} {gs : GenState}
    {r : Resume} {l : List Value} {α : Type} {k : GenResult → Sem α} {Q : α → Shared → Prop} (hg : s.gens[g]? = some gs)
    (hgo : Goes1 M A Z gs r (s.setGen g .running))
    (hZ : ∀ e s₁, Z e s₁ → e.quiet = true ∧ wpAny M A (k e.result) Q E (s₁.setGen g e.genState)) :
    wpAny M A (.resume g r l k) Q E s := by
  intro Γ p hΓ
  rw [Sem.wp_resume]
  have hB : ∀ c, (Γ.wake c p).Woken A := fun c => hΓ.wake c p
  cases gs with
  | fresh c =>
    obtain ⟨rfl, hs⟩ := hgo
    obtain ⟨e₁, s₁, hr, he⟩ := hs (Γ.wake c p) p rfl (hB c)
    obtain ⟨q, w⟩ := hZ e₁ s₁ he
    exact ⟨_, _, by unfold Wakes; rw [hg]; exact ⟨e₁, s₁, hr, q, rfl, rfl⟩, w Γ p hΓ⟩
  | suspended k₀ l₀ c₀ p₀ fs₀ cl =>
    obtain ⟨e₁, s₁, hr, he⟩ := hgo (Γ.wake c₀ p) p₀ rfl (hB c₀)
    obtain ⟨q, w⟩ := hZ e₁ s₁ he
    exact ⟨_, _, by unfold Wakes; rw [hg]; exact ⟨e₁, s₁, hr, q, rfl, rfl⟩, w Γ p hΓ⟩
  | running => exact hgo.elim
  | finished => exact hgo.elim
/-- next(g): an item, or the end -/
theorem next_gen1 {P : Program} {w : World} {A : Around} {E : Value → Shared → Prop} {s : Shared} {a : Addr} {g : Nat} {gs : GenState} {F : Shared → Prop} {Y : Value → GenState → Shared → Prop} {Q : Option Value → Shared → Prop} (hh : A.handled = none)
    (hl : s.heap.NoLimit) (hroom : A.depth < recursionLimit) (hg : s.heap.IsGen a g) (hgs : s.gens[g]? = some gs)
    (hgo : Goes1 (model P w) A.in1 (fun e s₁ => e.quiet = true ∧ ((e = .ret (.ok (.ret .none)) ∧ F s₁) ∨ ∃ v g0 l k c p fs, e = .susp v g0 l k c p fs ∧ Y v e.genState s₁)) gs (.send .none) (s.setGen g .running))
    (hY : ∀ v gs' s₁, gs'.bare = true → Y v gs' s₁ → Q (some v) (s₁.setGen g gs'))
    (hP : ∀ s₁, F s₁ → ∀ h', (∀ b o, s₁.heap.get? b = some o → h'.get? b = some o) → Q none { s₁.setGen g .finished with heap := h' }) :
    wpAny (model P w) A (pyNext (.ref a)) Q E s := by
  unfold pyNext
  refine wpAny_bind (wpAny_attempt (wpAny_callSpecial?_slot (name := Str.ofString "__next__") hg.typeIs slot_gen_next
    (wpAny_call_entry slot_gen_next hg.typeIs entry_gen_next ?_ (args_gen_next _))))
  show wpAny _ A.in1 (Builtin.Generator.genWake (.ref a) (.send .none)) _ _ s
  unfold Builtin.Generator.genWake
  refine wpAny_bind (wpAny_holding (wpAny_genNumber hg (wpAny_bind (wpAny_genState hgs ?_))))
  cases gs with
  | running => exact hgo.elim
  | finished => exact hgo.elim
  | _ =>
    refine wpAny_bind (wpAny_roomToWake hl hroom ?_)
    show wpAny _ A.in1 (.resume g (.send .none) [] _) _ _ s
    refine wpAny_resume1 hgs hgo fun e s₁ hx => ?_
    obtain ⟨hq, ⟨rfl, hp⟩ | ⟨v, g0, l, k, c, p, fs, rfl, hy⟩⟩ := hx
    · refine ⟨hq, ?_⟩
      show wpAny _ A.in1 (newExc (.type "StopIteration") [] >>= _) _ _ _
      refine wpAny_bind ?_
      simp only [newExc, newTuple]
      refine wpAny_bind (wpAny_newObj_type ?_ (by size_fits))
      refine wpAny_bind (m := firstArgMember _ _) (wpAny_of_eq (a := Value.none) (by first | rfl | (simp only [firstArgMember]; rfl)) ?_)
      refine wpAny_newObj_type ?_ (by size_fits)
      simp only [raiseNew]
      refine wpAny_bind (wpAny_bind (wpAny_handled ?_))
      first | rw [show A.in1.handled = none from hh] | rw [hh]
      refine wpAny_throw ?_
      refine wpAny_bind (wpAny_isInstance (T := "StopIteration") (b := true) ⟨_, Heap.get?_push_size _ rfl, rfl⟩ isSubtype_stop ?_)
      exact wpAny_pure (hP s₁ hp _ fun b o hb => Heap.get?_push_of_some _ (Heap.get?_push_of_some _ hb))
    · exact ⟨hq, wpAny_pure ⟨v, rfl, wpAny_pure (hY v _ s₁ (End.bare_of_quiet hq) hy)⟩⟩
section
variable {M : Model} {A : Around} {Z : End → Shared → Prop} {c : Code} {fs : List Frame} {s : Shared} {env : Env}
  {K : Flow → Sem PySem.Fin} {H : Value → Sem PySem.Fin} {gd : Bool → Bool} {lv : List Value → List Value}
theorem s1_nil (h : Seg1 M A Z c (K .next) fs s) : Seg1 M A Z c ((execs [] env).wrap K H gd lv) fs s := h
theorem s1_cons {st : Stmt} {rest : List Stmt}
    (h : Seg1 M A Z c ((exec st env).wrap (fun f => match f with | .next => (execs rest env).wrap K H gd lv | f => K f) H gd lv) fs s) :
    Seg1 M A Z c ((execs (st :: rest) env).wrap K H gd lv) fs s := by rw [execs_cons_wrap]; exact h
/-- yield e -/
theorem s1_Yield {e : Expr} {ypos pos : Pos} (hfs : splitAtGen fs = none)
    (h : wpAny M (A.over c fs) (eval e env) (fun v s' => ∀ p k, (∀ s'' Z', Seg1 M A Z' c (K .next) fs s'' → Seg1 M A Z' c (k (.send .none)) fs s'') → Z (.susp v (gd false) (lv []) k c p fs) s') (fun _ _ => False) s)
    (hco : env.scope.isCoroutine = false := by rfl) (hi : interactive env = false := by rfl) :
    Seg1 M A Z c ((exec (.Expr (.Yield (some e) ypos) pos) env).wrap K H gd lv) fs s := by
  rw [exec_Expr env _ pos hi rfl]
  show Seg1 M A Z c (.at pos fun _ => ((eval e env >>= fun v => (standAt ypos >>= fun _ => yieldOut env v)) >>= fun x =>
    dropValue (.Yield (some e) ypos) pos x).wrap K H gd lv) fs s
  have hy : ∀ v, yieldOut env v = yieldValue v := fun v => by simp only [yieldOut, hco, Bool.false_eq_true, if_false]
  simp only [hy]
  refine s1_at ?_
  rw [Sem.bind_eq_wrap', Sem.bind_eq_wrap', Sem.wrap_wrap, Sem.wrap_wrap]
  refine s1_wrap (wpAny_mono h (fun v s' h' => ?_) fun _ _ x => x)
  refine s1_at (s1_yield hfs fun p => ?_)
  exact h' p _ fun s'' Z' q => q
/-- for: from its iterator on -/
theorem s1_For {target iter : Expr} {body : List Stmt} {pos : Pos}
    (h : wpAny M (A.over c fs) (eval iter env) (fun x s₁ => wpAny M (A.over c fs) (pyIter x) (fun it s₂ =>
      ∀ k p, (∀ f s' Z', Seg1 M A Z' c (K f) fs s' → Seg1 M A Z' c (k (.ok f)) fs s') → Seg1 M A Z (.forLoop target it body [] env) (M.den (.forLoop target it body [] env)) (.ret k none (gd false) (lv []) c p [] :: fs) s₂) (fun _ _ => False) s₁) (fun _ _ => False) s)
    (hs : ∀ x, foldedSetIterable iter env x = pure x := by intro _; rfl) :
    Seg1 M A Z c ((exec (.For target iter body [] pos) env).wrap K H gd lv) fs s := by
  rw [exec_For]
  refine s1_at ?_
  show Seg1 M A Z c ((eval iter env >>= fun y => foldedSetIterable iter env y >>= fun x => standAt iter.pos >>= fun _ => holding [x] (pyIter x) >>= fun it => runOwn (.forLoop target it body [] env) env).wrap K H gd lv) fs s
  rw [Sem.bind_eq_wrap', Sem.wrap_wrap]
  refine s1_wrap (wpAny_mono h (fun x s₁ h₁ => ?_) fun _ _ q => q)
  rw [hs x]
  show Seg1 M A Z c (.at iter.pos fun _ => (holding [x] (pyIter x) >>= fun it => runOwn (.forLoop target it body [] env) env).wrap K H gd lv) fs s₁
  refine s1_at ?_
  rw [Sem.bind_eq_wrap', Sem.wrap_wrap]
  refine s1_wrap (wpAny_holding (wpAny_mono h₁ (fun it s₂ h₂ => ?_) fun _ _ q => q))
  exact s1_call fun p => h₂ _ p fun f s' Z' q => q
end
section
variable {P : Program} {w : World} {A : Around} {Z : End → Shared → Prop} {fs : List Frame} {s : Shared} {env : Env}
theorem s1_func {body : List Stmt}
    (h : ∀ H, Seg1 (model P w) A Z (.func body env) ((execs body env).wrap (fun f => .pure (.done (.ret (match f with | .ret v => v | _ => .none)))) H id id) fs s) :
    Seg1 (model P w) A Z (.func body env) ((model P w).den (.func body env)) fs s := by
  show Seg1 _ A Z _ (.point [] fun _ => ((execs body env).onRaise (leaving env)) >>= _) fs s
  refine s1_point ?_
  rw [Sem.onRaise_eq_wrap, Sem.bind_eq_wrap', Sem.wrap_wrap]
  rw [Sem.wrap_congr (execs body env) _ _ (K' := fun f => .pure (.done (.ret (match f with | .ret v => v | _ => .none))))
    (H' := fun e => (leaving env e).wrap (fun _ => .raise e) .raise id id) (fun f => by cases f <;> rfl)
    (fun e => by rw [Sem.bind_eq_wrap, Sem.wrap_wrap]; rfl)]
  exact h _
/-- one turn of a for loop -/
theorem s1_turn {target it} {body : List Stmt}
    (h : wpAny (model P w) (A.over (.forLoop target it body [] env) fs) (pyNext it) (fun r s₁ => match r with
      | none => Seg1 (model P w) A Z (.block [] env) (.pure (.done .next)) fs s₁
      | some v => wpAny (model P w) (A.over (.forLoop target it body [] env) fs) (letOwnedTupleGo target it v) (fun _ s₁' =>
          wpAny (model P w) (A.over (.forLoop target it body [] env) fs) (assign target env v) (fun _ s₂ => ∀ H, Seg1 (model P w) A Z (.forLoop target it body [] env) ((execs body env).wrap (fun f => match f with
            | .next | .cont => .pure (.again (.forLoop target it body [] env))
            | .brk => .pure (.done .next)
            | .ret v => .pure (.done (.ret v))) H id id) fs s₂) (fun _ _ => False) s₁') (fun _ _ => False) s₁) (fun _ _ => False) s) :
    Seg1 (model P w) A Z (.forLoop target it body [] env) ((model P w).den (.forLoop target it body [] env)) fs s := by
  show Seg1 _ A Z _ ((forTurn target it body [] env).onRaise (fun x => do noteFrame x env; theTreesLotGoes x)) fs s
  unfold forTurn
  rw [Sem.onRaise_eq_wrap]
  refine s1_at ?_
  show Seg1 _ A Z _ ((((pyNext it).onRaise (fun _ => standAt { target.pos with line := 0 })) >>= fun r => (match r with
    | none => again (.block [] env)
    | some v => letOwnedTupleGo target it v >>= fun _ => assign target env v >>= fun _ => execs body env >>= fun f => match f with
      | .next | .cont => again (.forLoop target it body [] env)
      | .brk => pure (.done .next)
      | .ret v => pure (.done (.ret v)) : Sem PySem.Fin)).wrap _ _ id id) fs s
  rw [Sem.bind_eq_wrap', Sem.wrap_wrap]
  refine s1_wrap (wpAny_onRaise (wpAny_mono h (fun r s₁ h₁ => ?_) fun _ _ q => q.elim))
  cases r with
  | none => exact s1_again rfl h₁
  | some v =>
    show Seg1 _ A Z _ ((letOwnedTupleGo target it v >>= fun _ => assign target env v >>= fun _ => execs body env >>= fun f => match f with
      | .next | .cont => again (.forLoop target it body [] env)
      | .brk => pure (.done .next)
      | .ret v => pure (.done (.ret v))).wrap _ _ id id) fs s₁
    rw [Sem.bind_eq_wrap', Sem.wrap_wrap]
    refine s1_wrap (wpAny_mono h₁ (fun _ s₂ h₂ => ?_) fun _ _ q => q)
    rw [Sem.bind_eq_wrap', Sem.wrap_wrap]
    refine s1_wrap (wpAny_mono h₂ (fun _ s₃ h₃ => ?_) fun _ _ q => q)
    rw [Sem.bind_eq_wrap', Sem.wrap_wrap]
    rw [Sem.wrap_congr (execs body env) _ _ (K' := fun f => match f with
            | .next | .cont => .pure (.again (.forLoop target it body [] env))
            | .brk => .pure (.done .next)
            | .ret v => .pure (.done (.ret v))) (H' := _) (fun f => by cases f <;> rfl) (fun e => rfl)]
    exact h₃ _
end
end DL
/-! EC: a sleeping generator's objects beside what the consumer tracks; the context of its body. -/
namespace DL
open PySem PySem.Spec PyProof.Rows L2

/-! ### objects put by -/
/-- H with these objects known as they stand -/
def addO (O : List (Addr × Obj)) (H : Hp) : Hp := fun b => match O.find? (fun p => p.1 == b) with
  | some p => some (.frz p.2 (.own 0))
  | none => H b
def delO (O : List (Addr × Obj)) (H : Hp) : Hp := fun b => if b ∈ O.map (·.1) then none else H b
/-- the objects stand, and are not tracked -/
def Put (O : List (Addr × Obj)) (H : Hp) (s : Shared) : Prop := ∀ p ∈ O, s.heap.get? p.1 = some p.2 ∧ H p.1 = none
/-- they are known -/
def Known (O : List (Addr × Obj)) (H : Hp) : Prop := ∀ p ∈ O, ∃ o, H p.1 = some (.frz o (.own 0))
section
variable {O : List (Addr × Obj)} {H H' : Hp} {s : Shared}
theorem addO_out {b : Addr} (h : b ∉ O.map (·.1)) : addO O H b = H b := by
  unfold addO
  cases e : O.find? (fun p => p.1 == b) with
  | none => rfl
  | some p =>
    have h1 := List.mem_of_find?_eq_some e
    have h2 := List.find?_some e
    exact absurd (List.mem_map.mpr ⟨p, h1, eq_of_beq h2⟩) h
theorem addO_in {b : Addr} (h : b ∈ O.map (·.1)) : ∃ p ∈ O, p.1 = b ∧ addO O H b = some (.frz p.2 (.own 0)) := by
  unfold addO
  cases e : O.find? (fun p => p.1 == b) with
  | none =>
    obtain ⟨p, hp, rfl⟩ := List.mem_map.mp h
    have := List.find?_eq_none.mp e p hp
    simp at this
  | some p =>
    have h2 := List.find?_some e
    exact ⟨p, List.mem_of_find?_eq_some e, eq_of_beq h2, rfl⟩
theorem addO_known : Known O (addO O H) := fun p hp => by
  obtain ⟨q, _, _, e⟩ := addO_in (O := O) (H := H) (List.mem_map.mpr ⟨p, hp, rfl⟩)
  exact ⟨_, e⟩
theorem delO_in {b : Addr} (h : b ∈ O.map (·.1)) : delO O H b = none := by unfold delO; rw [if_pos h]
theorem delO_out {b : Addr} (h : b ∉ O.map (·.1)) : delO O H b = H b := by unfold delO; rw [if_neg h]
theorem Put.out (h : Put O H s) {b : Addr} {o : HO} (e : H b = some o) : b ∉ O.map (·.1) := fun hm => by
  obtain ⟨p, hp, rfl⟩ := List.mem_map.mp hm
  rw [(h p hp).2] at e; cases e
theorem Put.more (h : Put O H s) {b : Addr} {o : HO} (e : H b = some o) : addO O H b = some o := (addO_out (h.out e)).trans e
theorem Put.grow {W : Wd} (h : Put O H s) (f : Fok W H) : Grow W H W (addO O H) := f.more fun _ _ e => h.more e
/-- what is known otherwise is not of these -/
theorem Known.out (h : Known O H) {b : Addr} {o : HO} (e : H b = some o) (n : ∀ x, o ≠ .frz x (.own 0)) : b ∉ O.map (·.1) := fun hm => by
  obtain ⟨p, hp, rfl⟩ := List.mem_map.mp hm
  obtain ⟨x, q⟩ := h p hp
  rw [e] at q
  exact n x (Option.some.inj q)
theorem Known.at (h : Known O H) {b : Addr} {o : HO} (e : H b = some o) (n : ∀ x, o ≠ .frz x (.own 0)) : delO O H b = some o := (delO_out (h.out e n)).trans e
end
section
variable {K : PySem.W.Frag} {W W' : Wd} {O : List (Addr × Obj)} {H H' : Hp} {σ σ' : L2.St} {r r' : List Slot} {st : Sta}
theorem TupR.del (k : Known O H) {a : Addr} {xs : List V} (h : TupR H a xs) : TupR (delO O H) a xs := let ⟨o, h, c, d⟩ := h; ⟨o, k.at h (fun _ e => by cases e), c, d⟩
mutual
theorem IsD.del (k : Known O H) : ∀ {d : PyData} {v : V}, IsD K W H v d → IsD K W (delO O H) v d
  | _, _, .non => .non
  | _, _, .bl b => .bl b
  | _, _, .int i => .int i
  | _, _, .str x => .str x
  | _, _, .lst f z hs => .lst (f.imp (fun ⟨a, b⟩ => ⟨a, k.at b fun _ e => by cases e⟩) fun ⟨o, b⟩ => ⟨o, k.at b fun _ e => by cases e⟩) z (IsDs.del k hs)
  | _, _, .tup f z hs => .tup (f.del k) z (IsDs.del k hs)
  | _, _, .rf f => .rf f
  | _, _, .scr f z => .scr (f.imp (fun ⟨o, q⟩ => ⟨o, k.at q fun _ e => by cases e⟩) id) z
  | _, _, .dct hk hd ht hv z hs => .dct hk (k.at hd fun _ e => by cases e) (fun x hx => ⟨(ht x hx).1.del k, (ht x hx).2⟩) hv z (IsDs.del k hs)
theorem IsDs.del (k : Known O H) : ∀ {ds : List PyData} {vs : List V}, IsDs K W H vs ds → IsDs K W (delO O H) vs ds
  | _, _, .nil => .nil
  | _, _, .cons h hs => .cons (IsD.del k h) (IsDs.del k hs)
end
theorem Rel.del (k : Known O H) (R : Rel K W H σ st) : Rel K W (delO O H) σ st := by
  refine ⟨fun i d h => ?_, fun i l h => ?_, R.dj, R.len, R.sl, R.nd, fun n a o h e => ?_, fun a h => ?_, R.lf⟩
  · obtain ⟨v, e, q⟩ := R.val i d h
    exact ⟨v, e, q.del k⟩
  · obtain ⟨a, xs, e1, e2, e3, e4, e5, e6⟩ := R.own i l h
    exact ⟨a, xs, e1, k.at e2 (fun _ e => by cases e), e3.del k, e4, e5, e6⟩
  · have q := R.sto n a o h e
    cases o with
    | lst l =>
      obtain ⟨xs, q1, q2, q3⟩ := q
      exact ⟨xs, k.at q1 (fun _ e => by cases e), q2.del k, q3⟩
  · obtain ⟨xs, e⟩ := R.fok a h
    exact ⟨xs, k.at e fun _ e => by cases e⟩
/-- behind the consumer's code: taken out again -/
theorem Ext.del {s : Shared} (p : Put O H s) (E : Ext W (addO O H) σ r W' H' σ' r') : Ext W H σ r W' (delO O H') σ' r' := by
  have back : ∀ a, addO O H a = none → H a = none := fun a h => by
    cases e : H a with
    | none => rfl
    | some o => rw [p.more e] at h; cases h
  obtain ⟨m, e1, e2⟩ := E.l
  refine ⟨E.f, fun a h => ?_, ⟨m, e1, fun a ha => back a (e2 a ha)⟩, fun a o h hl ho => ?_, fun a h => ?_, fun a h => (E.on a h).imp id (back a)⟩
  · rcases E.fn a h with h | h | h
    · exact .inl h
    · exact .inr (.inl (back a h))
    · exact .inr (.inr h)
  · rw [delO_out (p.out h)]
    exact E.keep a o (p.more h) hl ho
  · cases e : H a with
    | none => exact absurd e h
    | some o =>
      rw [delO_out (p.out e)]
      exact E.dom a (by rw [p.more e]; simp)
/-- they are known still -/
theorem Ext.known {s : Shared} (p : Put O H s) (R : Rel K W H σ st) (E : Ext W (addO O H) σ st.r W' H' σ' r') : ∀ a ∈ O.map (·.1), H' a = addO O H a := fun a ha => by
  obtain ⟨q, hq, rfl, e⟩ := addO_in (O := O) (H := H) ha
  have hn := (p q hq).2
  have nL : q.1 ∉ W.L := fun hm => by
    obtain ⟨n, hn', z⟩ := List.mem_iff_getElem.mp hm
    have e1 : W.L[n]? = some q.1 := by rw [List.getElem?_eq_getElem hn', z]
    have hn2 : n < st.s.length := by rw [← R.sl]; exact hn'
    have y := R.sto n q.1 _ e1 (List.getElem?_eq_getElem hn2)
    cases e3 : st.s[n] with
    | lst l =>
      rw [e3] at y
      obtain ⟨xs, y, _⟩ := y
      rw [hn] at y; cases y
  rw [e]
  exact E.keep _ _ e nL fun ho => by
    obtain ⟨_, _, xs, y⟩ := R.ownF ho
    rw [hn] at y; cases y
end
/-- they are known exactly -/
def Exact (O : List (Addr × Obj)) (H : Hp) : Prop := ∀ p ∈ O, H p.1 = some (.frz p.2 (.own 0))
section
variable {O : List (Addr × Obj)} {H H' : Hp} {s : Shared} {W W' : Wd}
theorem Exact.known (h : Exact O H) : Known O H := fun p hp => ⟨p.2, h p hp⟩
theorem add_del (h : Exact O H) : addO O (delO O H) = H := by
  funext b
  by_cases hb : b ∈ O.map (·.1)
  · obtain ⟨p, hp, rfl, e⟩ := addO_in (O := O) (H := delO O H) hb
    rw [e, h p hp]
  · rw [addO_out hb, delO_out hb]
theorem del_add (h : Put O H s) : delO O (addO O H) = H := by
  funext b
  by_cases hb : b ∈ O.map (·.1)
  · obtain ⟨p, hp, rfl⟩ := List.mem_map.mp hb
    rw [delO_in hb, (h p hp).2]
  · rw [delO_out hb, addO_out hb]
theorem Put.exact (h : Put O H s) : Exact O (addO O H) := fun p hp => by
  obtain ⟨q, hq, e1, e2⟩ := addO_in (O := O) (H := H) (List.mem_map.mpr ⟨p, hp, rfl⟩)
  have e3 := (h q hq).1
  rw [e1, (h p hp).1] at e3
  rw [e2, Option.some.inj e3]
theorem Exact.put {P : Program} {w : World} (h : Exact O H) (hok : HOk P w H s.heap) : Put O (delO O H) s := fun p hp => ⟨(hok _ _ (h p hp)).1, delO_in (List.mem_map.mpr ⟨p, hp, rfl⟩)⟩
theorem Lat.addO (l : Lat W H W' H') : Lat W (addO O H) W' (addO O H') := by
  have key : ∀ a o, DL.addO O H a = some o → (H a = some o → H' a = some o) → DL.addO O H' a = some o := fun a o e k => by
    by_cases ha : a ∈ O.map (·.1)
    · unfold DL.addO at e ⊢
      cases q : O.find? (fun p => p.1 == a) with
      | none =>
        obtain ⟨p, hp, rfl⟩ := List.mem_map.mp ha
        have := List.find?_eq_none.mp q p hp
        simp at this
      | some p => rw [q] at e; exact e
    · rw [addO_out ha] at e ⊢; exact k e
  exact ⟨l.f, l.l, fun a o f e => key a o e (l.fz a o f), fun a xs e => key a _ e (l.tp a xs), fun a o u e n => key a _ e fun h => l.fr a o u h n⟩
theorem Lat.delO (p : Put O H s) (k : Known O H') (f : Fok W' H') (l : Lat W (DL.addO O H) W' H') : Lat W H W' (DL.delO O H') := by
  refine ⟨l.f, l.l, fun a o fa e => ?_, fun a xs e => ?_, fun a o u e n => ?_⟩
  · rw [delO_out (p.out e)]; exact l.fz a o fa (p.more e)
  · rw [delO_out (p.out e)]; exact l.tp a xs (p.more e)
  · rw [delO_out (p.out e)]; exact l.fr a o u (p.more e) n
end
/-- the consumer's own stands below n -/
structure Und (X : Cx) (pins : List (Addr × Obj)) (n : Nat) : Prop where
  s0 : X.s_0.heap.objs.size ≤ n
  loc : X.env.locals < n
  cel : ∀ x c, X.env.cells.lookup x = some c → c < n
  pin : ∀ p ∈ X.pn ++ pins, p.1 < n
theorem _root_.L2.Inv.und {X : Cx} {pins : List (Addr × Obj)} {σ : L2.St} {H : Hp} {s : Shared} (I : Inv X pins σ H s) : Und X pins s.heap.objs.size where
  s0 := I.sz
  loc := I.lt
  cel := fun x c e => by
    obtain ⟨v, o, ho, _⟩ := I.cell x c e
    exact Heap.lt_size ho
  pin := fun p hp => Heap.lt_size (I.pin p hp).1
section
variable {X : Cx} {pins O : List (Addr × Obj)} {σ : L2.St} {H : Hp} {s : Shared} {n : Nat}
theorem _root_.L2.Inv.addO (I : Inv X pins σ H s) (p : Put O H s) (u : Und X pins n) (hO : ∀ q ∈ O, n ≤ q.1) : Inv X pins σ (addO O H) s := by
  have low : ∀ b, b < n → b ∉ O.map (·.1) := fun b h hm => by
    obtain ⟨q, hq, rfl⟩ := List.mem_map.mp hm
    exact absurd (Nat.lt_of_lt_of_le h (hO q hq)) (Nat.lt_irrefl _)
  have low0 : ∀ b o, X.s_0.heap.get? b = some o → b ∉ O.map (·.1) := fun b o h => low b (Nat.lt_of_lt_of_le (Heap.lt_size h) u.s0)
  refine ⟨I.ok, I.os, I.bare, ⟨I.base.keep, I.base.slot, fun b o e n hx => ?_, I.base.there, fun b xs e => p.more (I.base.tups b xs e), fun b o v e => p.more (I.base.frzs b o v e), fun b ps e => ?_⟩, I.loc, I.cell, ?_, fun x c e => ?_, fun q hq => ?_, fun b o e => ?_, I.len⟩
  · rw [addO_out (low0 b o e)]; exact I.base.free b o e n hx
  · obtain ⟨m, q⟩ := I.base.tbls b ps e
    exact ⟨m, p.more q⟩
  · rw [addO_out (low _ u.loc)]; exact I.free
  · rw [addO_out (low _ (u.cel x c e))]; exact I.freeC x c e
  · obtain ⟨h1, h2, h3⟩ := I.pin q hq
    exact ⟨h1, by rw [addO_out (low _ (u.pin q hq))]; exact h2, h3⟩
  · by_cases hb : b ∈ O.map (·.1)
    · obtain ⟨q, hq, rfl, e'⟩ := addO_in (O := O) (H := H) hb
      rw [e] at e'
      cases e'
      exact ⟨(p q hq).1, _, (p q hq).1⟩
    · rw [addO_out hb] at e
      exact (I.hok b o e).stay (fun _ _ _ q => q) (fun _ q => p.more q) fun _ _ q => p.more q
/-- the same, apart one by one -/
theorem _root_.L2.Inv.addD (I : Inv X pins σ H s) (p : Put O H s) (h0 : ∀ q ∈ O, X.s_0.heap.objs.size ≤ q.1) (hd : ∀ q ∈ O, q.1 ≠ X.env.locals ∧ (∀ x c, X.env.cells.lookup x = some c → c ≠ q.1) ∧ ∀ u ∈ X.pn ++ pins, u.1 ≠ q.1) : Inv X pins σ (addO O H) s := by
  have out : ∀ b, (∀ q ∈ O, b ≠ q.1) → b ∉ O.map (·.1) := fun b h hm => by
    obtain ⟨q, hq, rfl⟩ := List.mem_map.mp hm
    exact h q hq rfl
  have low0 : ∀ b o, X.s_0.heap.get? b = some o → b ∉ O.map (·.1) := fun b o h => out b fun q hq e => absurd (Nat.lt_of_lt_of_le (e ▸ Heap.lt_size h) (h0 q hq)) (Nat.lt_irrefl _)
  refine ⟨I.ok, I.os, I.bare, ⟨I.base.keep, I.base.slot, fun b o e n hx => ?_, I.base.there, fun b xs e => p.more (I.base.tups b xs e), fun b o v e => p.more (I.base.frzs b o v e), fun b ps e => ?_⟩, I.loc, I.cell, ?_, fun x c e => ?_, fun q hq => ?_, fun b o e => ?_, I.len⟩
  · rw [addO_out (low0 b o e)]; exact I.base.free b o e n hx
  · obtain ⟨m, q⟩ := I.base.tbls b ps e
    exact ⟨m, p.more q⟩
  · rw [addO_out (out _ fun q hq => Ne.symm (hd q hq).1)]; exact I.free
  · rw [addO_out (out _ fun q hq => (hd q hq).2.1 x c e)]; exact I.freeC x c e
  · obtain ⟨h1, h2, h3⟩ := I.pin q hq
    exact ⟨h1, by rw [addO_out (out _ fun u hu => (hd u hu).2.2 q hq)]; exact h2, h3⟩
  · by_cases hb : b ∈ O.map (·.1)
    · obtain ⟨q, hq, rfl, e'⟩ := addO_in (O := O) (H := H) hb
      rw [e] at e'
      cases e'
      exact ⟨(p q hq).1, _, (p q hq).1⟩
    · rw [addO_out hb] at e
      exact (I.hok b o e).stay (fun _ _ _ q => q) (fun _ q => p.more q) fun _ _ q => p.more q
/-- nothing that lasts is told of these at the entry -/
def Clr (X : Cx) (O : List (Addr × Obj)) : Prop := ∀ q ∈ O, (∀ xs, X.H_0 q.1 ≠ some (.tup xs)) ∧ (∀ o v, X.H_0 q.1 ≠ some (.frz o v)) ∧ ∀ ps, X.H_0 q.1 ≠ some (.tbl ps)
theorem _root_.L2.Inv.clr (I : Inv X pins σ H s) (p : Put O H s) : Clr X O := fun q hq =>
  have n := (p q hq).2
  ⟨fun xs e => (nomatch n.symm.trans (I.base.tups _ _ e)), fun o v e => (nomatch n.symm.trans (I.base.frzs _ _ _ e)), fun ps e => let ⟨m, z⟩ := I.base.tbls _ _ e; (nomatch n.symm.trans z)⟩
theorem _root_.L2.Inv.delO (I : Inv X pins σ H s) (k : Known O H) (c : Clr X O) : Inv X pins σ (delO O H) s := by
  have fr : ∀ b, H b = none → DL.delO O H b = none := fun b e => by unfold DL.delO; split <;> first | rfl | exact e
  have out : ∀ b, (∀ q ∈ O, q.1 ≠ b) → DL.delO O H b = H b := fun b h => delO_out fun hm => by obtain ⟨q, hq, e⟩ := List.mem_map.mp hm; exact h q hq e
  refine ⟨I.ok, I.os, I.bare, ⟨I.base.keep, I.base.slot, fun b o e n hx => fr b (I.base.free b o e n hx), I.base.there, fun b xs e => ?_, fun b o v e => ?_, fun b ps e => ?_⟩, I.loc, I.cell, fr _ I.free, fun x c e => fr _ (I.freeC x c e), fun q hq => ?_, fun b o e => ?_, I.len⟩
  · rw [out b fun q hq z => by subst z; exact (c q hq).1 xs e]; exact I.base.tups b xs e
  · rw [out b fun q hq z => by subst z; exact (c q hq).2.1 o v e]; exact I.base.frzs b o v e
  · obtain ⟨m, z⟩ := I.base.tbls b ps e
    exact ⟨m, by rw [out b fun q hq z => by subst z; exact (c q hq).2.2 ps e]; exact z⟩
  · obtain ⟨h1, h2, h3⟩ := I.pin q hq
    exact ⟨h1, fr _ h2, h3⟩
  · have hb : b ∉ O.map (·.1) := fun hm => by rw [delO_in hm] at e; cases e
    rw [delO_out hb] at e
    exact (I.hok b o e).stay (fun _ _ _ q => q) (fun _ q => k.at q fun _ z => by cases z) fun _ _ q => k.at q fun _ z => by cases z
theorem _root_.L2.Inv.gens {g : Array GenState} (I : Inv X pins σ H s) (h : AllBare g) : Inv X pins σ H { s with gens := g } :=
  ⟨I.ok, I.os, h, I.base, I.loc, I.cell, I.free, I.freeC, I.pin, I.hok, I.len⟩
end
end DL
/-! ED: a generator's context, waking and going to sleep. -/
namespace DL
open PySem PySem.Spec PyProof.Rows L2

/-! ### a heap's first objects -/
def trunc (L : Nat) (h : Heap) : Heap := ⟨h.objs.extract 0 L, h.life⟩
theorem arr_ext {α : Type} (a : Array α) (L b : Nat) (hb : b < L) : (a.extract 0 L)[b]? = a[b]? := by
  by_cases h1 : b < a.size
  · rw [Array.getElem?_extract_of_lt (by omega)]
    simp
  · have h2 : (a.extract 0 L).size ≤ b := by rw [Array.size_extract]; omega
    rw [Array.getElem?_eq_none h2, Array.getElem?_eq_none (by omega)]
theorem trunc_lt {L : Nat} {h : Heap} {b : Addr} (hb : b < L) : (trunc L h).get? b = h.get? b := by
  unfold trunc Heap.get?
  rw [show (h.objs.extract 0 L)[b]? = h.objs[b]? from arr_ext h.objs L b hb]
theorem trunc_size {L : Nat} {h : Heap} (hL : L ≤ h.objs.size) : (trunc L h).objs.size = L := by
  unfold trunc
  rw [Array.size_extract]
  omega
theorem trunc_of {L : Nat} {h : Heap} (hL : L ≤ h.objs.size) {b : Addr} {o : Obj} (e : (trunc L h).get? b = some o) : b < L ∧ h.get? b = some o := by
  have := Heap.lt_size e
  rw [trunc_size hL] at this
  exact ⟨this, (trunc_lt this).symm.trans e⟩
theorem frames_low {h h' base : Heap} : ∀ {l : List Env}, (∀ b ∈ frs l, h'.get? b = h.get? b) → h.FunFrames base l → h'.FunFrames base l
  | [], _, _ => trivial
  | env :: r, k, hl => by
    obtain ⟨hk, ⟨L, o, hf, hn, ho, hd⟩, hr⟩ := hl
    have hL : L ∈ frs (env :: r) := by unfold frs; rw [List.filterMap_cons, hf]; exact List.mem_cons_self
    exact ⟨hk, ⟨L, o, hf, hn, (k L hL).trans ho, hd⟩, frames_low (fun b hb => k b (by unfold frs; rw [List.filterMap_cons, hf]; exact List.mem_cons_of_mem _ hb)) hr⟩

/-! ### the context -/
structure GE where
  P : Program
  w : World
  K : PySem.W.Frag
  mg : Str → Option Value
  base : Heap
  N : List Str
  qual : Str
  scope : Scope
  f : Addr
  cd : Value
  A : Around
  outer : List Env
  L : Addr
  a : Addr
  oa : Obj
def GE.env (G : GE) : Env := envOfC G.qual G.scope G.L G.f G.cd
def GE.cx (G : GE) (s : Shared) (H : Hp) : Cx where
  prog := G.P
  w := G.w
  K := G.K
  mg := G.mg
  base := G.base
  A := G.A.deeper G.env
  N := G.N
  s_0 := s
  H_0 := H
  env := G.env
  outer := G.outer
  stack := G.env :: G.outer
  ex := []
  fn := fun _ => true
  calm := true
  pn := [(G.a, G.oa)]
  xe := fun _ _ => False
/-- what does not change -/
structure GE.Ok (G : GE) : Prop where
  mod : Mod G.K G.mg G.base
  kind : G.scope.kind = .function
  inj : ∀ x y c, G.env.cells.lookup x = some c → G.env.cells.lookup y = some c → x = y
  has : ∀ x, (G.env.kindOf x = some .cell ∨ G.env.kindOf x = some .free) → ∃ c, G.env.cells.lookup x = some c
  cab : ∀ x c, G.env.cells.lookup x = some c → G.L ≤ c
  hd : G.A.handled = none
  frames : G.A.frames = some G.outer
  bsz : G.base.objs.size ≤ G.L
  la : G.L ≤ G.a
/-- what stands in the heap for the generator -/
structure Frm (G : GE) (ip : List (Addr × Obj)) (σ : L2.St) (H : Hp) (s : Shared) : Prop where
  loc : ∃ m, s.heap.Ns G.L m ∧ ∀ (i : Nat) (x : Str) (v : V), G.N[i]? = some x → σ[i]? = some (some v) → Vis G.env.scope x → ∃ u, RelV v u ∧ Look G.env s.heap m x u
  cell : ∀ x c, G.env.cells.lookup x = some c → ∃ v, s.heap.IsCell c v
  free : H G.L = none
  freeC : ∀ x c, G.env.cells.lookup x = some c → H c = none
  pin : ∀ p ∈ (G.a, G.oa) :: ip, s.heap.get? p.1 = some p.2 ∧ H p.1 = none ∧ p.1 ≠ G.L ∧ G.L ≤ p.1 ∧ ∀ v, p.2.data ≠ .cell v
  len : σ.length = G.N.length
/-- the consumer at X walks this generator -/
structure GE.For (G : GE) (X : Cx) (pins : List (Addr × Obj)) : Prop where
  P : G.P = X.prog
  w : G.w = X.w
  base : G.base = X.base
  outer : G.outer = X.stack
  und : Und X pins G.L
section
variable {G : GE} {X : Cx} {ip pins : List (Addr × Obj)} {σ σg : L2.St} {H H' : Hp} {s s' s0 : Shared} {H0 : Hp}
theorem _root_.L2.Inv.frm (I : Inv (G.cx s0 H0) ip σ H s) (ok : G.Ok) (hi : ∀ p ∈ ip, G.L ≤ p.1) : Frm G ip σ H s :=
  ⟨I.loc, I.cell, I.free, I.freeC, fun p hp => by
    obtain ⟨h1, h2, h3, _, h5⟩ := I.pin p hp
    refine ⟨h1, h2, h3, ?_, h5⟩
    rcases List.mem_cons.mp hp with e | e
    · rw [e]; exact ok.la
    · exact hi p e, I.len⟩
theorem stack_low (I : Inv X pins σ H s) {n : Nat} (u : Und X pins n) : ∀ b ∈ frs X.stack, b < n := fun b hb => by
  rcases List.mem_cons.mp (I.stkSub b hb) with e | hb
  · rw [e]; exact u.loc
  · obtain ⟨_, o, ho, _⟩ := I.ok.funs.mem hb
    exact Nat.lt_of_lt_of_le (Heap.lt_size ho) u.s0
/-- WAKING: the generator's own state over the consumer's -/
theorem wake_inv {g : Array GenState} (ok : G.Ok) (F : G.For X pins) (I : Inv X pins σ H s) (hL : G.L ≤ s.heap.objs.size) (fm : Frm G ip σg H s) (hg : AllBare g) :
    Inv (G.cx { s with heap := trunc G.L s.heap } H) ip σg H { s with gens := g } := by
  have tr : ∀ b o, (trunc G.L s.heap).get? b = some o → s.heap.get? b = some o := fun b o e => (trunc_of hL e).2
  have low := stack_low I F.und
  refine ⟨⟨ok.mod, ok.kind, rfl, rfl, Nat.le_of_eq (trunc_size hL), ok.inj, ok.has, fun x c _ e => ?_, fun _ => ok.hd, Around.frames_deeper ok.frames, .inr ⟨rfl, rfl⟩, fun b z => (nomatch z), fun b o e => ?_, ?_, fun b o _ z => (nomatch z), fun b z => (nomatch z), ?_, fun b hb => ?_⟩,
    rfl, hg, Un.kept tr, fm.loc, fm.cell, fm.free, fm.freeC, fun p hp => ?_, ?_, fm.len⟩
  · exact Nat.le_trans (Nat.le_of_eq (trunc_size hL)) (ok.cab x c e)
  · have e' : X.base.get? b = some o := by rw [← F.base]; exact e
    obtain ⟨h1, h2⟩ := I.bs b o e'
    exact ⟨(trunc_lt (Nat.lt_of_lt_of_le (Heap.lt_size e) ok.bsz)).trans h1, h2⟩
  · show G.base.objs.size ≤ (trunc G.L s.heap).objs.size
    rw [trunc_size hL]; exact ok.bsz
  · show (trunc G.L s.heap).FunFrames G.base G.outer
    rw [F.base, F.outer]
    exact frames_low (fun b hb => trunc_lt (low b hb)) I.stack
  · have hb' : b ∈ frs X.stack := by rw [← F.outer]; exact hb
    exact I.stkFree b hb'
  · obtain ⟨h1, h2, h3, h4, h5⟩ := fm.pin p hp
    refine ⟨h1, h2, h3, fun hb => ?_, h5⟩
    have hb' : p.1 ∈ frs X.stack := by rw [← F.outer]; exact hb
    exact absurd (Nat.lt_of_lt_of_le (low _ hb') h4) (Nat.lt_irrefl _)
  · show HOk G.P G.w H s.heap
    rw [F.P, F.w]
    exact I.hok
/-- ASLEEP, OR ENDED: the consumer goes on -/
theorem sleep_inv {g : Array GenState} (F : G.For X pins) (I : Inv X pins σ H s) (hL : G.L ≤ s.heap.objs.size) {t : Shared} (ht : t.heap = trunc G.L s.heap) (hto : t.os = s.os) (J : Inv (G.cx t H) ip σg H' s') (hg : AllBare g) :
    Inv X pins σ H' { s' with gens := g } := by
  have hos : s'.os = s.os := J.os.trans hto
  obtain ⟨hh, g', d, tk, os'⟩ := s'
  obtain rfl : os' = s.os := hos
  have fs : frs X.stack = (G.cx t H).fs := by show _ = frs G.outer; rw [F.outer]
  have lo : ∀ b o, s.heap.get? b = some o → b ∉ (List.range s.heap.objs.size).filter (fun b => decide (G.L ≤ b)) → (G.cx t H).s_0.heap.get? b = some o := fun b o e hb => by
    have hb' : b < G.L := by
      refine Nat.lt_of_not_le fun z => hb ?_
      rw [List.mem_filter]
      exact ⟨List.mem_range.mpr (Heap.lt_size e), by simpa using z⟩
    show t.heap.get? b = some o
    rw [ht, trunc_lt hb']
    exact e
  suffices q : Inv X pins σ H' { s with heap := hh, gens := g, drawn := d, toks := tk } from q
  refine I.call (h' := hh) (g' := g) (d' := d) (t' := tk) (ch := (List.range s.heap.objs.size).filter (fun b => decide (G.L ≤ b))) ?_ ?_ hg fun b hb => ?_
  · rw [fs]
    exact ⟨fun b o e n h1 h2 => J.base.keep b o (lo b o e h2) n h1 (by exact fun z => nomatch z), fun b o e n h1 h2 => J.base.slot b o (lo b o e h2) n h1 (by exact fun z => nomatch z), fun b o e n h2 => J.base.free b o (lo b o e h2) n (by exact fun z => nomatch z),
      fun b o e h2 => J.base.there b o (lo b o e h2) (by exact fun z => nomatch z), J.base.tups, J.base.frzs, J.base.tbls⟩
  · have := J.hok
    rw [← F.P, ← F.w]
    exact this
  · have hb' : G.L ≤ b := by simpa using (List.mem_filter.mp hb).2
    exact ⟨.inr (Nat.le_trans F.und.s0 hb'), fun z => absurd (z ▸ F.und.loc) (Nat.not_lt.mpr hb'), fun x c e z => absurd (z ▸ F.und.cel x c e) (Nat.not_lt.mpr hb'), fun p hp z => absurd (z ▸ F.und.pin p hp) (Nat.not_lt.mpr hb')⟩
end
end DL
/-! EE: what a generator hands out, segment by segment; its statements. -/
namespace DL
open PySem PySem.Spec PyProof.Rows L2
def NoOwn (r : List Slot) : Prop := ∀ (i : Nat) (l : List PyData), r[i]? ≠ some (.own l)
theorem delO_nil {H : Hp} : delO [] H = H := by funext b; unfold delO; simp
/-- awake, at work: g its number; ip its iterators; xo, ig: the objects and the numbers of the generators that it walks itself -/
structure Awake (G : GE) (g : Nat) (ip xo : List (Addr × Obj)) (ig : List (Nat × GenState)) (r : List Slot) (S : List So) (t : Shared) (H0 : Hp) (W : Wd) (σ : L2.St) (H : Hp) (s : Shared) : Prop where
  inv : Inv (G.cx t H0) ip σ H s
  rel : Rel G.K W H σ ⟨r, S⟩
  me : s.gens[g]? = some .running
  low : ∀ p ∈ ip, G.L ≤ p.1
  gen : ∀ p ∈ ig, s.gens[p.1]? = some p.2 ∧ susp p.2 = true ∧ g < p.1
  sz : t.heap.objs.size = G.L
  kn : Exact xo H
  xlow : ∀ p ∈ xo, G.L ≤ p.1
  clr : Clr (G.cx t H0) xo
/-- the older generators: asleep, at work further out, as before -/
def Below (g : Nat) (s s' : Shared) : Prop := ∀ (i : Nat) (x : GenState), i < g → s.gens[i]? = some x → susp x = true → s'.gens[i]? = some x
theorem Below.trans {g : Nat} {s s1 s2 : Shared} (a : Below g s s1) (b : Below g s1 s2) : Below g s s2 := fun i x h e q => b i x h (a i x h e q) q
theorem Sleeps.below {g : Nat} {s s1 : Shared} (a : Sleeps s.gens s1) : Below g s s1 := fun i x _ e q => a i x e q
def ZFin (G : GE) (g : Nat) (S : List So) (t : Shared) (H0 : Hp) (W : Wd) (H : Hp) (σ : L2.St) (r : List Slot) (s : Shared) (e : End) (s' : Shared) : Prop :=
  e = .ret (.ok (.ret .none)) ∧ Below g s s' ∧ ∃ ip' r' σ' W' H', Inv (G.cx t H0) ip' σ' H' s' ∧ Rel G.K W' H' σ' ⟨r', S⟩ ∧ Ext W H σ r W' H' σ' r'
abbrev BehT := List (Addr × Obj) → List (Addr × Obj) → List (Nat × GenState) → List Slot → Code → Sem PySem.Fin → List Frame → Wd → Hp → Prop
def ZYld (G : GE) (g : Nat) (S : List So) (t : Shared) (H0 : Hp) (W : Wd) (H : Hp) (σ : L2.St) (r : List Slot) (s : Shared) (d : PyData) (B : BehT) (e : End) (s' : Shared) : Prop :=
  Below g s s' ∧
  ∃ v l k c p fs x ip' xo' ig' r' σ' W' H', e = .susp v false l k c p fs ∧ e.quiet = true ∧ RelV x v ∧ IsD G.K W' H' x d ∧ NoOwn r' ∧ Awake G g ip' xo' ig' r' S t H0 W' σ' H' s' ∧ Ext W H σ r W' (delO xo' H') σ' r' ∧
    B ip' xo' ig' r' c (k (.send .none)) fs W' H'
/-- from here on ds is handed out, then it ends -/
def Beh (G : GE) (g : Nat) : List PyData → BehT
  | [] => fun ip xo ig r c tr fs W0 H1 => ∀ S t H0 W σ H s, Lat W0 H1 W H → Awake G g ip xo ig r S t H0 W σ H s → Seg1 (model G.P G.w) G.A (ZFin G g S t H0 W (delO xo H) σ r s) c tr fs s
  | d :: ds => fun ip xo ig r c tr fs W0 H1 => ∀ S t H0 W σ H s, Lat W0 H1 W H → Awake G g ip xo ig r S t H0 W σ H s → Seg1 (model G.P G.w) G.A (ZYld G g S t H0 W (delO xo H) σ r s d (Beh G g ds)) c tr fs s
def Zof (G : GE) (g : Nat) (ds : List PyData) (S : List So) (t : Shared) (H0 : Hp) (W : Wd) (H : Hp) (σ : L2.St) (r : List Slot) (s : Shared) : End → Shared → Prop := match ds with
  | [] => ZFin G g S t H0 W H σ r s
  | d :: ds => ZYld G g S t H0 W H σ r s d (Beh G g ds)
section
variable {G : GE} {g : Nat} {ds : List PyData} {ip xo : List (Addr × Obj)} {ig : List (Nat × GenState)} {r r1 : List Slot} {c : Code} {tr : Sem PySem.Fin} {fs : List Frame} {W0 W W1 : Wd} {H1 H H2 : Hp}
theorem beh_iff : Beh G g ds ip xo ig r c tr fs W0 H1 ↔ ∀ S t H0 W σ H s, Lat W0 H1 W H → Awake G g ip xo ig r S t H0 W σ H s → Seg1 (model G.P G.w) G.A (Zof G g ds S t H0 W (delO xo H) σ r s) c tr fs s := by
  cases ds <;> exact Iff.rfl
theorem Beh.later (h : Beh G g ds ip xo ig r c tr fs W0 H1) (l : Lat W0 H1 W1 H2) : Beh G g ds ip xo ig r c tr fs W1 H2 :=
  beh_iff.mpr fun S t H0 W σ H s l' a => beh_iff.mp h S t H0 W σ H s (l.trans l') a
theorem Zof.base {S : List So} {t : Shared} {H0 : Hp} {σ σ1 : L2.St} {e : End} {s s1 s' : Shared} (x : Ext W H σ r W1 H2 σ1 r1) (b : Below g s s1) (h : Zof G g ds S t H0 W1 H2 σ1 r1 s1 e s') : Zof G g ds S t H0 W H σ r s e s' := by
  cases ds with
  | nil =>
    obtain ⟨a, b', ip', r', σ', W', H', b2, c, d⟩ := h
    exact ⟨a, b.trans b', ip', r', σ', W', H', b2, c, x.trans d⟩
  | cons d ds =>
    obtain ⟨b', v, l, k, c, p, fs, y, ip', xo', ig', r', σ', W', H', a1, a2, a3, a4, a5, a6, a7, a8⟩ := h
    exact ⟨b.trans b', v, l, k, c, p, fs, y, ip', xo', ig', r', σ', W', H', a1, a2, a3, a4, a5, a6, x.trans a7, a8⟩
theorem Awake.put {S : List So} {t : Shared} {H0 : Hp} {σ : L2.St} {s : Shared} (a : Awake G g ip xo ig r S t H0 W σ H s) : Put xo (delO xo H) s := a.kn.put a.inv.hok
theorem Awake.strip {S : List So} {t : Shared} {H0 : Hp} {σ σ1 : L2.St} {s : Shared} (a : Awake G g ip xo ig r S t H0 W σ H s) (x : Ext W H σ r W1 H2 σ1 r1) : Ext W (delO xo H) σ r W1 (delO xo H2) σ1 r1 := by
  have x' : Ext W (addO xo (delO xo H)) σ r W1 H2 σ1 r1 := by rw [add_del a.kn]; exact x
  exact x'.del a.put
theorem Awake.exact {S : List So} {t : Shared} {H0 : Hp} {σ σ1 : L2.St} {s : Shared} (a : Awake G g ip xo ig r S t H0 W σ H s) (x : Ext W H σ r W1 H2 σ1 r1) : Exact xo H2 := by
  have x' : Ext W (addO xo (delO xo H)) σ r W1 H2 σ1 r1 := by rw [add_del a.kn]; exact x
  have k := x'.known a.put (a.rel.del a.kn.known)
  rw [add_del a.kn] at k
  exact fun p hp => (k p.1 (List.mem_map.mpr ⟨p, hp, rfl⟩)).trans (a.kn p hp)
theorem Awake.go {S : List So} {t : Shared} {H0 : Hp} {σ : L2.St} {s s1 : Shared} {σ1 : L2.St} (a : Awake G g ip xo ig r S t H0 W σ H s) (J : Inv (G.cx t H0) ip σ1 H2 s1) (R : Rel G.K W1 H2 σ1 ⟨r1, S⟩) (x : Ext W H σ r W1 H2 σ1 r1) (sl : Sleeps s.gens s1) : Awake G g ip xo ig r1 S t H0 W1 σ1 H2 s1 :=
  ⟨J, R, sl g _ a.me rfl, a.low, fun p hp => ⟨sl p.1 p.2 (a.gen p hp).1 (a.gen p hp).2.1, (a.gen p hp).2⟩, a.sz, a.exact x, a.xlow, a.clr⟩
theorem Awake.lat {S : List So} {t : Shared} {H0 : Hp} {σ σ1 : L2.St} {s : Shared} (a : Awake G g ip xo ig r S t H0 W σ H s) (x : Ext W H σ r W1 H2 σ1 r1) : Lat W H W1 H2 := a.rel.lat x
end
/-- where the code stands -/
structure GCd (G : GE) (c : Code) (fs : List Frame) (gd : Bool → Bool) : Prop where
  over : G.A.over c fs = G.A.deeper G.env
  split : splitAtGen fs = none
  guard : fs.any Frame.guarded = false
  gd : gd false = false
abbrev GMir := List Slot → List PyData → List Slot → Prop
structure GenS (G : GE) (st : Stmt) (m : GMir) : Prop where
  run : ∀ (g : Nat) (c : Code) (fs : List Frame) (K : Flow → Sem PySem.Fin) (J : Value → Sem PySem.Fin) (gd : Bool → Bool) (lv : List Value → List Value) (ip xo : List (Addr × Obj)) (ig : List (Nat × GenState)) (r : List Slot) (ds : List PyData) (r1 : List Slot) (rest : List PyData) (W0 : Wd) (H1 : Hp),
    GCd G c fs gd → m r ds r1 → Beh G g rest ip xo ig r1 c (K .next) fs W0 H1 → Beh G g (ds ++ rest) ip xo ig r c ((exec st G.env).wrap K J gd lv) fs W0 H1
structure GenSs (G : GE) (st : List Stmt) (m : GMir) : Prop where
  run : ∀ (g : Nat) (c : Code) (fs : List Frame) (K : Flow → Sem PySem.Fin) (J : Value → Sem PySem.Fin) (gd : Bool → Bool) (lv : List Value → List Value) (ip xo : List (Addr × Obj)) (ig : List (Nat × GenState)) (r : List Slot) (ds : List PyData) (r1 : List Slot) (rest : List PyData) (W0 : Wd) (H1 : Hp),
    GCd G c fs gd → m r ds r1 → Beh G g rest ip xo ig r1 c (K .next) fs W0 H1 → Beh G g (ds ++ rest) ip xo ig r c ((execs st G.env).wrap K J gd lv) fs W0 H1
def gNx : GMir := fun r ds r1 => ds = [] ∧ r1 = r
def gSeq (a b : GMir) : GMir := fun r ds r1 => ∃ d1 d2 r2, ds = d1 ++ d2 ∧ a r d1 r2 ∧ b r2 d2 r1
def gPl (f : SD) : GMir := fun r ds r1 => ds = [] ∧ ∀ S, f ⟨r, S⟩ = .nx ⟨r1, S⟩
def gYl (f : ED) : GMir := fun r ds r1 => ∃ d, ds = [d] ∧ NoOwn r1 ∧ ∀ S, f ⟨r, S⟩ = .ok d ⟨r1, S⟩
def gIf (c : ET) (a b : GMir) : GMir := fun r ds r1 => ∃ k r2, (∀ S, c ⟨r, S⟩ = .ok k ⟨r2, S⟩) ∧ if k = true then a r2 ds r1 else b r2 ds r1
section
variable {G : GE}
/-- code of the kit's over the sleeping generators -/
theorem over_asleep {α : Type} {X : Cx} {t : Sem α} {Q : α → Shared → Prop} {pins : List (Addr × Obj)} {σ : L2.St} {H : Hp} {s : Shared} (I : Inv X pins σ H s)
    (h : ∀ s0, s0.heap = s.heap → Inv X pins σ H s0 → wpAny (model X.prog X.w) X.A t (fun a s1 => ∀ g, (AllBare s1.gens → AllBare g) → Sleeps s.gens { s1 with gens := g } → Q a { s1 with gens := g }) (fun _ _ => False) s0) :
    wpAny (model X.prog X.w) X.A t Q (fun _ _ => False) s :=
  wpAny_asleep (wpAny_mono (h _ rfl (I.gens (bare_stuck I.bare))) (fun _ _ q => q) fun _ _ q => q.elim)
theorem gss_nil : GenSs G [] gNx := ⟨fun g c fs K J gd lv ip xo ig r ds r1 rest W0 H1 _ m k => by
  obtain ⟨rfl, rfl⟩ := m
  exact beh_iff.mpr fun S t H0 W σ H s l a => s1_nil (beh_iff.mp k S t H0 W σ H s l a)⟩
theorem gss_cons {st : Stmt} {rest : List Stmt} {a b : GMir} (ha : GenS G st a) (hb : GenSs G rest b) : GenSs G (st :: rest) (gSeq a b) := ⟨fun g c fs K J gd lv ip xo ig r ds r1 rs W0 H1 gc m k => by
  obtain ⟨d1, d2, r2, rfl, m1, m2⟩ := m
  have k2 := hb.run g c fs K J gd lv ip xo ig r2 d2 r1 rs W0 H1 gc m2 k
  have k1 := ha.run g c fs (fun f => match f with | .next => (execs rest G.env).wrap K J gd lv | f => K f) J gd lv ip xo ig r d1 r2 (d2 ++ rs) W0 H1 gc m1 k2
  rw [List.append_assoc]
  exact beh_iff.mpr fun S t H0 W σ H s l aw => s1_cons (beh_iff.mp k1 S t H0 W σ H s l aw)⟩
theorem gss_one {st : Stmt} {a : GMir} (ha : GenS G st a) : GenSs G [st] a := ⟨fun g c fs K J gd lv ip xo ig r ds r1 rs W0 H1 gc m k =>
  beh_iff.mpr fun S t H0 W σ H s l aw => s1_cons (beh_iff.mp (ha.run g c fs (fun f => match f with | .next => (execs [] G.env).wrap K J gd lv | f => K f) J gd lv ip xo ig r ds r1 rs W0 H1 gc m k) S t H0 W σ H s l aw)⟩
theorem gs_pl {st : Stmt} {f : SD} (h : ∀ t H0, PS (G.cx t H0) st (tS G.K DL.E0 f)) : GenS G st (gPl f) := ⟨fun g c fs K J gd lv ip xo ig r ds r1 rest W0 H1 gc m k => by
  obtain ⟨rfl, m⟩ := m
  refine beh_iff.mpr fun S t H0 W σ H s l aw => s1_wrap ?_
  rw [gc.over]
  refine over_asleep (X := G.cx t H0) aw.inv fun s0 hs I0 => ?_
  refine wpAny_mono ((h t H0).run ip s0 σ H { nx := fun σ' H' => ∃ W', Rel G.K W' H' σ' ⟨r1, S⟩ ∧ Ext W H σ r W' H' σ' r1, rt := fun _ _ => False } I0 ⟨W, ⟨r, S⟩, aw.rel, ?_⟩) (fun fl s1 q g' hb sl => ?_) fun _ _ q => q
  · rw [m S]
    exact fun σ' W' H' R X => ⟨W', R, X⟩
  · cases fl with
    | next =>
      obtain ⟨σ', H', J', W', R', X'⟩ := q
      exact (beh_iff.mp k S t H0 W' σ' H' _ (l.trans (aw.lat X')) (aw.go (J'.gens (hb J'.bare)) R' X' sl)).imp fun e s' z => z.base (aw.strip X') sl.below
    | brk => obtain ⟨_, _, _, q⟩ := q; exact q.elim
    | cont => obtain ⟨_, _, _, q⟩ := q; exact q.elim
    | ret u => obtain ⟨_, _, _, _, _, q⟩ := q; exact q.elim⟩
theorem gs_yl {e : Expr} {yp pos : Pos} {f : ED} (h : ∀ t H0, PE (G.cx t H0) e (tD G.K DL.E0 f)) (hco : G.env.scope.isCoroutine = false := by rfl) (hi : interactive G.env = false := by rfl) : GenS G (.Expr (.Yield (some e) yp) pos) (gYl f) := ⟨fun g c fs K J gd lv ip xo ig r ds r1 rest W0 H1 gc m k => by
  obtain ⟨d, rfl, no, m⟩ := m
  refine beh_iff.mpr fun S t H0 W σ H s l aw => s1_Yield gc.split ?_ hco hi
  rw [gc.over]
  refine over_asleep (X := G.cx t H0) aw.inv fun s0 hs I0 => ?_
  refine wpAny_mono ((h t H0).run ip s0 σ H (fun x H' => ∃ W', Rel G.K W' H' σ ⟨r1, S⟩ ∧ Ext W H σ r W' H' σ r1 ∧ IsD G.K W' H' x d) I0 ⟨W, ⟨r, S⟩, aw.rel, ?_⟩) (fun v s1 q g' hb sl p kk hk => ?_) fun _ _ q => q
  · rw [m S]
    exact fun W' H' R X x hx => ⟨W', R, X, hx⟩
  · obtain ⟨x, H', J', rv, W', R', X', hx⟩ := q
    refine ⟨sl.below, v, _, _, _, _, _, x, ip, xo, ig, r1, σ, W', H', by rw [gc.gd], by simp [End.quiet, gc.guard, gc.gd], rv, hx, no, aw.go (J'.gens (hb J'.bare)) R' X' sl, aw.strip X', ?_⟩
    exact beh_iff.mpr fun S t H0 W2 σ2 H2 s2 l2 aw2 => hk _ _ (beh_iff.mp k S t H0 W2 σ2 H2 s2 ((l.trans (aw.lat X')).trans l2) aw2)⟩
theorem gs_if {test : Expr} {body orelse : List Stmt} {pos : Pos} {fc : ET} {a b : GMir} (hc : ∀ t H0, PT (G.cx t H0) test (tT G.K DL.E0 fc)) (ha : GenSs G body a) (hb : GenSs G orelse b) : GenS G (.If test body orelse pos) (gIf fc a b) := ⟨fun g c fs K J gd lv ip xo ig r ds r1 rest W0 H1 gc m k => by
  obtain ⟨kk, r2, m, m2⟩ := m
  refine beh_iff.mpr fun S t H0 W σ H s l aw => ?_
  rw [exec_If]
  refine s1_at ?_
  show Seg1 _ _ _ c ((isTrue test G.env (eval test G.env) >>= fun b => if b = true then execs body G.env else execs orelse G.env).wrap K J gd lv) fs s
  rw [Sem.bind_eq_wrap', Sem.wrap_wrap]
  refine s1_wrap ?_
  rw [gc.over]
  refine over_asleep (X := G.cx t H0) aw.inv fun s0 hs I0 => ?_
  refine wpAny_mono ((hc t H0).run ip s0 σ H (fun b H' => ∃ W', b = kk ∧ Rel G.K W' H' σ ⟨r2, S⟩ ∧ Ext W H σ r W' H' σ r2) I0 ⟨W, ⟨r, S⟩, aw.rel, ?_⟩) (fun v s1 q g' hb' sl => ?_) fun _ _ q => q
  · rw [m S]
    exact fun W' H' R X => ⟨W', rfl, R, X⟩
  · obtain ⟨H', J', W', rfl, R', X'⟩ := q
    have aw' := aw.go (J'.gens (hb' J'.bare)) R' X' sl
    have l' := l.trans (aw.lat X')
    cases v with
    | true => exact (beh_iff.mp (ha.run g c fs K J gd lv ip xo ig r2 ds r1 rest W0 H1 gc m2 k) S t H0 W' σ H' _ l' aw').imp fun e s' z => z.base (aw.strip X') sl.below
    | false => exact (beh_iff.mp (hb.run g c fs K J gd lv ip xo ig r2 ds r1 rest W0 H1 gc m2 k) S t H0 W' σ H' _ l' aw').imp fun e s' z => z.base (aw.strip X') sl.below⟩
end
end DL
/-! EF: for over data in a generator. -/
namespace DL
open PySem PySem.Spec PyProof.Rows L2
/-- what runs with these generators stuck runs with them -/
theorem wpAny_kp {α : Type} {M : Model} {A : Around} {G b : Array GenState} {s : Shared} {t : Sem α} {Q : α → Shared → Prop} {E : Value → Shared → Prop} (k : Kp G s.gens b)
    (h : wpAny M A t (fun a s0 => ∀ g, Kp G s0.gens g → Q a { s0 with gens := g }) (fun e s0 => ∀ g, Kp G s0.gens g → E e { s0 with gens := g }) s) : wpAny M A t Q E { s with gens := b } := fun Γ p hΓ => by
  refine Sem.wp_mono M Γ t (fun a p' s' ⟨a', k, q⟩ => ?_) (fun e p' s' ⟨a', k, q⟩ => ?_) p _ (frame_wp t _ _ p s b k (h Γ p hΓ))
  · exact q s'.gens k
  · exact q s'.gens k
theorem Kp.sleeps {G a b : Array GenState} (k : Kp G a b) {s : Shared} : Sleeps G { s with gens := b } := fun i x e z => (k.old i x e z).2
theorem over_kp {α : Type} {X : Cx} {t : Sem α} {Q : α → Shared → Prop} {pins : List (Addr × Obj)} {σ : L2.St} {H : Hp} {s : Shared} (I : Inv X pins σ H s)
    (h : ∀ s0, s0.heap = s.heap → Inv X pins σ H s0 → wpAny (model X.prog X.w) X.A t (fun a s1 => ∀ g, Kp s.gens s1.gens g → Q a { s1 with gens := g }) (fun _ _ => False) s0) :
    wpAny (model X.prog X.w) X.A t Q (fun _ _ => False) s :=
  wpAny_kp (s := { s with gens := s.gens.map stuck }) (Kp.mk0 s.gens) (wpAny_mono (h _ rfl (I.gens (bare_stuck I.bare))) (fun _ _ q => q) fun _ _ q => q.elim)
def gLoop (g : TGT) (b : GMir) : List PyData → GMir
  | [] => fun r ds r1 => ds = [] ∧ r1 = r
  | x :: xs => fun r ds r1 => ∃ d1 d2 r2 r3, ds = d1 ++ d2 ∧ (∀ S, g x ⟨r, S⟩ = some ⟨r2, S⟩) ∧ b r2 d1 r3 ∧ gLoop g b xs r3 d2 r1
def gFor (i : EL) (g : TGT) (b : GMir) : GMir := fun r ds r1 => ∃ xs r2, (∀ S, i ⟨r, S⟩ = .ok xs ⟨r2, S⟩) ∧ gLoop g b xs r2 ds r1
theorem gc_ret {G : GE} {c c' : Code} {fs : List Frame} {gd : Bool → Bool} {k : Result → Sem PySem.Fin} {l kp : List Value} {p : Pos} (g : GCd G c fs gd) (hw : c'.weight = 0) (hu : c'.cUnits = 0) :
    GCd G c' (.ret k none (gd false) l c p kp :: fs) id where
  over := (GenW.over_loop hw hu).trans g.over
  split := by
    show (splitAtGen fs).map _ = none
    rw [g.split]; rfl
  guard := by
    show (gd false || fs.any Frame.guarded) = false
    rw [g.gd, g.guard]; rfl
  gd := rfl
section
variable {G : GE} {g : Nat} {ip xo : List (Addr × Obj)} {ig : List (Nat × GenState)} {tg : Expr} {body : List Stmt} {b : GMir} {gt : TGT} {w : Bool} {is : List Nat} {c : Code} {fs : List Frame}
/-- the loop, from a turn on -/
theorem for_loop {J : It} {fp : List Addr} {it : Addr} {tn : Nat → Heap → Prop} {xs rest : List PyData} {K : Flow → Sem PySem.Fin} {kk : Result → Sem PySem.Fin} {gd : Bool → Bool} {l : List Value} {p : Pos} {r1 : List Slot} {Wc : Wd} {Hc : Hp}
    (gc : GCd G c fs gd) (T : Turn G.P G.w G.K tg J fp it tn) (hit : ItOk G.K w J Wc Hc xs)
    (hfp : ∀ b ∈ fp, b ≠ G.L ∧ b ∉ frs G.outer ∧ G.L ≤ b ∧ (∀ x c, G.env.cells.lookup x = some c → c ≠ b) ∧ ∀ q ∈ (G.a, G.oa) :: ip, q.1 ≠ b)
    (hk : ∀ f s' Z', Seg1 (model G.P G.w) G.A Z' c (K f) fs s' → Seg1 (model G.P G.w) G.A Z' c (kk (.ok f)) fs s')
    (hg : ∀ t H0, PG (G.cx t H0) tg (tG G.K w is gt)) (hb : GenSs G body b) (hr : ∀ {W1 H2}, Lat Wc Hc W1 H2 → Beh G g rest ip xo ig r1 c (K .next) fs W1 H2) :
    ∀ (ys : List PyData) (i : Nat) (pl : List (Addr × Obj)) (r : List Slot) (ds : List PyData) (W0 : Wd) (H1 : Hp), xs.drop i = ys → i ≤ xs.length → gLoop gt b ys r ds r1 → Lat Wc Hc W0 H1 →
      (∀ h : Heap, (∀ q ∈ pl, h.get? q.1 = some q.2) → tn i h) → (∀ b ∈ fp, ∃ o, (b, o) ∈ pl) → (∀ q ∈ pl, G.L ≤ q.1) →
      Beh G g (ds ++ rest) (ip ++ pl) xo ig r (.forLoop tg (.ref it) body [] G.env) ((model G.P G.w).den (.forLoop tg (.ref it) body [] G.env)) (.ret kk none (gd false) l c p [] :: fs) W0 H1 := by
  intro ys
  induction ys with
  | nil =>
    intro i pl r ds W0 H1 hd hi m lc htn hpl hlo
    obtain ⟨rfl, rfl⟩ := m
    have hi' : i = xs.length := by
      have := congrArg List.length hd
      rw [List.length_drop] at this
      simp at this
      omega
    refine beh_iff.mpr fun S t H0 W σ H s lt aw => s1_turn ?_
    rw [(gc_ret (k := kk) (l := l) (kp := []) (p := p) gc (c' := .forLoop tg (.ref it) body [] G.env) rfl rfl).over]
    have I0 := aw.inv.unpinned
    have f0 : ∀ b ∈ fp, FpOk (G.cx t H0) ip H b := fun b hb => by
      obtain ⟨o, ho⟩ := hpl b hb
      obtain ⟨h1, h2, h3, h4, h5⟩ := hfp b hb
      exact ⟨(aw.inv.pin (b, o) (List.mem_append_right _ (List.mem_append_right _ ho))).2.1, h1, h2, .inr (Nat.le_trans (Nat.le_of_eq aw.sz) h3), h4, h5⟩
    have t0 := htn s.heap fun q hq => (aw.inv.pin q (List.mem_append_right _ (List.mem_append_right _ hq))).1
    have io := hit.2 i W H (lc.trans lt) aw.rel.fok
    refine over_kp (X := G.cx t H0) I0 fun s0 hs I0' => ?_
    refine wpAny_mono (T.done (G.cx t H0) rfl rfl rfl rfl i ip s0 σ H (fun _ _ => False) I0' f0 (by rw [hs]; exact t0) (io.2 hi')) (fun rr s1 q g' kp => ?_) fun _ _ q => q
    obtain ⟨rfl, J'⟩ := q
    have aw' : Awake G g ip xo ig r1 S t H0 W σ H s := ⟨I0, aw.rel, aw.me, fun q hq => aw.low q (List.mem_append_left _ hq), aw.gen, aw.sz, aw.kn, aw.xlow, aw.clr⟩
    refine s1_leaf (.ok .next) (hk .next _ _ ?_)
    exact (beh_iff.mp (hr (lc.trans lt)) S t H0 W σ H _ (Lat.refl W H) (aw'.go (J'.gens (kp.bare J'.bare)) aw.rel .refl kp.sleeps)).imp fun e s' z => z.base .refl (Sleeps.below kp.sleeps)
  | cons x ys ih =>
    intro i pl r ds W0 H1 hd hi m lc htn hpl hlo
    obtain ⟨d1, d2, r2, r3, rfl, mg, mb, ml⟩ := m
    have hx : xs[i]? = some x := by rw [← List.head?_drop, hd]; rfl
    have hd2 : xs.drop (i + 1) = ys := by rw [← List.drop_drop, hd]; rfl
    have hi2 : i + 1 ≤ xs.length := (List.getElem?_eq_some_iff.mp hx).1
    refine beh_iff.mpr fun S t H0 W σ H s lt aw => s1_turn ?_
    have gc' := gc_ret (k := kk) (l := l) (kp := []) (p := p) gc (c' := .forLoop tg (.ref it) body [] G.env) rfl rfl
    rw [gc'.over]
    have I0 := aw.inv.unpinned
    have fok : ∀ H' : Hp, (∀ b ∈ fp, H' b = none) → ∀ b ∈ fp, FpOk (G.cx t H0) ip H' b := fun H' hn b hb => by
      obtain ⟨h1, h2, h3, h4, h5⟩ := hfp b hb
      exact ⟨hn b hb, h1, h2, .inr (Nat.le_trans (Nat.le_of_eq aw.sz) h3), h4, h5⟩
    have f0 := fok H fun b hb => by
      obtain ⟨o, ho⟩ := hpl b hb
      exact (aw.inv.pin (b, o) (List.mem_append_right _ (List.mem_append_right _ ho))).2.1
    have t0 := htn s.heap fun q hq => (aw.inv.pin q (List.mem_append_right _ (List.mem_append_right _ hq))).1
    have io := (hit.2 i W H (lc.trans lt) aw.rel.fok).1 x hx
    have aw0 : Awake G g ip xo ig r S t H0 W σ H s := ⟨I0, aw.rel, aw.me, fun q hq => aw.low q (List.mem_append_left _ hq), aw.gen, aw.sz, aw.kn, aw.xlow, aw.clr⟩
    refine over_kp (X := G.cx t H0) I0 fun s0 hs I0' => ?_
    refine wpAny_mono (T.item (G.cx t H0) rfl rfl rfl rfl i ip s0 σ H (fun _ _ => False) I0' f0 (by rw [hs]; exact t0) io.1) (fun rr s1 q g' kp => ?_) fun _ _ q => q
    obtain ⟨u, rfl, q⟩ := q
    refine wpAny_kp kp (wpAny_mono q (fun _ s2 q g2 kp2 => ?_) fun _ _ q => q.elim)
    obtain ⟨v, H5, I5, rv, y5, t5, n5⟩ := q
    obtain ⟨W5, gr, hw⟩ := io.2 v H5 y5
    have R5 := gr.rel aw.rel
    have X5 : Ext W H σ r W5 H5 σ r := gr.ext
    have I5p := (I5.gens (kp2.bare I5.bare)).pinned (fok H5 n5) (T.obj _ _ t5)
    have awp : Awake G g (ip ++ pinsAt fp s2.heap) xo ig r S t H0 W5 σ H5 { s2 with gens := g2 } := by
      have a5 := aw0.go (I5.gens (kp2.bare I5.bare)) R5 X5 kp2.sleeps
      refine ⟨I5p, R5, a5.me, fun q hq => ?_, a5.gen, aw.sz, a5.kn, aw.xlow, aw.clr⟩
      rcases List.mem_append.mp hq with hq | hq
      · exact aw0.low q hq
      · exact (hfp q.1 (of_pinsAt hq).1).2.2.1
    refine over_kp (X := G.cx t H0) I5p fun s6 hs6 I6 => ?_
    refine wpAny_mono ((hg t H0).run (ip ++ pinsAt fp s2.heap) s6 σ H5 v u (fun σ' H' => ∃ W', Rel G.K W' H' σ' ⟨r2, S⟩ ∧ Ext W5 H5 σ r W' H' σ' r2) I6 rv ⟨W5, ⟨r, S⟩, x, ⟨r2, S⟩, R5, hw, mg S, fun σ' _ R6 X6 => ⟨W5, R6, X6⟩⟩) (fun _ s7 q g7 kp7 HH => ?_) fun _ _ q => q
    obtain ⟨σ7, H7, I7, W7, R7, X57⟩ := q
    have X7 := X5.trans X57
    have aw7 := awp.go (I7.gens (kp7.bare I7.bare)) R7 X57 kp7.sleeps
    have lat7 : Lat Wc Hc W7 H7 := (lc.trans lt).trans (aw0.lat X7)
    have next := ih (i + 1) (pinsAt fp s2.heap) r3 d2 W7 H7 hd2 hi2 ml lat7 (fun h hq => T.keep (i + 1) s2.heap h t5 fun b hb o e => hq (b, o) (mem_pinsAt hb e)) (fun b hb => by
      obtain ⟨o, e, _⟩ := T.obj _ _ t5 b hb
      exact ⟨o, mem_pinsAt hb e⟩) fun q hq => (hfp q.1 (of_pinsAt hq).1).2.2.1
    have body' := hb.run g (.forLoop tg (.ref it) body [] G.env) (.ret kk none (gd false) l c p [] :: fs) (fun f => match f with
            | .next | .cont => .pure (.again (.forLoop tg (.ref it) body [] G.env))
            | .brk => .pure (.done .next)
            | .ret v => .pure (.done (.ret v))) HH id id (ip ++ pinsAt fp s2.heap) xo ig r2 d1 r3 (d2 ++ rest) W7 H7 gc' mb
      (beh_iff.mpr fun S t H0 W σ H s l a => s1_again rfl (beh_iff.mp next S t H0 W σ H s l a))
    rw [List.append_assoc]
    exact (beh_iff.mp body' S t H0 W7 σ7 H7 _ (Lat.refl W7 H7) aw7).imp fun e s' z => z.base (aw.strip X7) ((Sleeps.below (s := s) kp2.sleeps).trans (Sleeps.below kp7.sleeps))
/-- for over data -/
theorem gs_for {iter : Expr} {pos : Pos} {fi : EL} (hi : ∀ t H0, PI (G.cx t H0) tg iter (tI G.K DL.E0 w fi)) (hg : ∀ t H0, PG (G.cx t H0) tg (tG G.K w is gt)) (hb : GenSs G body b)
    (hs : ∀ x, foldedSetIterable iter G.env x = pure x := by intro _; rfl) : GenS G (.For tg iter body [] pos) (gFor fi gt b) := ⟨fun g c fs K J gd lv ip xo ig r ds r1 rest W0 H1 gc m k => by
  obtain ⟨xs, r2, mi, ml⟩ := m
  refine beh_iff.mpr fun S t H0 W σ H s l aw => s1_For ?_ hs
  rw [gc.over]
  refine over_kp (X := G.cx t H0) aw.inv fun s0 hs0 I0 => ?_
  refine wpAny_mono ((hi t H0).run ip s0 σ H (fun J H' => ∃ W', Rel G.K W' H' σ ⟨r2, S⟩ ∧ Ext W H σ r W' H' σ r2 ∧ ItOk G.K w J W' H' xs) I0 ⟨W, ⟨r, S⟩, aw.rel, ?_⟩) (fun v s1 q g' kp => ?_) fun _ _ q => q
  · rw [mi S]
    exact fun W' H' R X J hJ => ⟨W', R, X, hJ⟩
  refine wpAny_kp kp (wpAny_mono q (fun itv s2 q g2 kp2 => ?_) fun _ _ q => q.elim)
  obtain ⟨it, fp, tn, Jt, H2, rfl, I2, T, t2, f2, W2, R2, X2, hit⟩ := q
  intro kk p hk
  have hfp : ∀ b ∈ fp, b ≠ G.L ∧ b ∉ frs G.outer ∧ G.L ≤ b ∧ (∀ x c, G.env.cells.lookup x = some c → c ≠ b) ∧ ∀ q ∈ (G.a, G.oa) :: ip, q.1 ≠ b := fun b hb => by
    obtain ⟨_, h1, h2, h3, h4, h5⟩ := f2 b hb
    refine ⟨h1, h2, ?_, h4, h5⟩
    rcases h3 with h3 | h3
    · exact nomatch h3
    · exact Nat.le_trans (Nat.le_of_eq aw.sz.symm) h3
  have I2g := I2.gens (kp2.bare I2.bare)
  have I2p := I2g.pinned f2 (T.obj _ _ t2)
  have a2 := aw.go I2g R2 X2 kp2.sleeps
  have l2 := l.trans (aw.lat X2)
  have key := for_loop (g := g) (xo := xo) (ig := ig) (rest := rest) (K := K) (l := lv []) (p := p) (r1 := r1) gc T hit hfp hk hg hb (fun l3 => k.later (l2.trans l3)) xs 0 (pinsAt fp s2.heap) r2 ds W2 H2 rfl (Nat.zero_le _) ml (Lat.refl W2 H2)
    (fun h hq => T.keep 0 s2.heap h t2 fun b hb o e => hq (b, o) (mem_pinsAt hb e)) (fun b hb => by
      obtain ⟨o, e, _⟩ := T.obj _ _ t2 b hb
      exact ⟨o, mem_pinsAt hb e⟩) fun q hq => (hfp q.1 (of_pinsAt hq).1).2.2.1
  refine (beh_iff.mp key S t H0 W2 σ H2 _ (Lat.refl W2 H2) ⟨I2p, R2, a2.me, fun q hq => ?_, a2.gen, aw.sz, a2.kn, aw.xlow, aw.clr⟩).imp fun e s' z => z.base (aw.strip X2) (Sleeps.below (s := s) kp2.sleeps)
  rcases List.mem_append.mp hq with hq | hq
  · exact aw.low q hq
  · exact (hfp q.1 (of_pinsAt hq).1).2.2.1⟩
end
end DL
/-! EG: a sleeping generator, kept by its consumer; next. -/
namespace DL
open PySem PySem.Spec PyProof.Rows L2
theorem NoOwn.own {r : List Slot} (h : NoOwn r) {σ : L2.St} {a : Addr} : ¬ Own σ r a := fun ⟨i, l, e, _⟩ => h i l e
theorem bare_ext {W W' : Wd} {H H' : Hp} {σ σ' : L2.St} {r r' : List Slot} (no : NoOwn r) (X : Ext W H σ r W' H' σ' r') : Ext W H [] [] W' H' [] [] :=
  ⟨X.f, fun a h => (X.fn a h).imp id fun h => h.elim .inl fun h => absurd h no.own, X.l, fun a o h hl _ => X.keep a o h hl no.own, X.dom, fun a h => .inl h⟩
/-- its objects -/
theorem Frm.objs {G : GE} {ip : List (Addr × Obj)} {σ : L2.St} {H : Hp} {s : Shared} (ok : G.Ok) (f : Frm G ip σ H s) :
    ∃ O, Put O H s ∧ (∀ q ∈ O, G.L ≤ q.1) ∧ ∀ s' H', Put O H' s' → Frm G ip σ H' s' := by
  obtain ⟨m, ⟨oL, es, ep, hL, rL⟩, hlook⟩ := f.loc
  let cs : List (Addr × Obj) := G.env.cells.filterMap fun p => (G.env.cells.lookup p.1).bind fun c => (s.heap.get? c).map fun o => (c, o)
  have csof : ∀ q ∈ cs, ∃ x, G.env.cells.lookup x = some q.1 ∧ s.heap.get? q.1 = some q.2 := fun q hq => by
    obtain ⟨p, _, e⟩ := List.mem_filterMap.mp hq
    obtain ⟨c, e1, e2⟩ := Option.bind_eq_some_iff.mp e
    obtain ⟨o, e3, rfl⟩ := Option.map_eq_some_iff.mp e2
    exact ⟨p.1, e1, e3⟩
  have csin : ∀ x c, G.env.cells.lookup x = some c → ∃ o, s.heap.get? c = some o ∧ (c, o) ∈ cs := fun x c e => by
    obtain ⟨v, o, ho, _⟩ := f.cell x c e
    exact ⟨o, ho, List.mem_filterMap.mpr ⟨(x, c), PySem.mem_of_lookup e, by
      show ((G.env.cells.lookup x).bind fun c => (s.heap.get? c).map fun o => (c, o)) = _
      rw [e]
      show (s.heap.get? c).map _ = _
      rw [ho]; rfl⟩⟩
  refine ⟨(G.L, oL) :: cs ++ ((G.a, G.oa) :: ip), fun q hq => ?_, fun q hq => ?_, fun s' H' p => ?_⟩
  · rcases List.mem_append.mp hq with hq | hq
    · rcases List.mem_cons.mp hq with e | hq
      · rw [e]; exact ⟨hL, f.free⟩
      · obtain ⟨x, e1, e2⟩ := csof q hq
        exact ⟨e2, f.freeC x q.1 e1⟩
    · obtain ⟨h1, h2, _⟩ := f.pin q hq
      exact ⟨h1, h2⟩
  · rcases List.mem_append.mp hq with hq | hq
    · rcases List.mem_cons.mp hq with e | hq
      · rw [e]; exact Nat.le_refl _
      · obtain ⟨x, e1, _⟩ := csof q hq
        exact ok.cab x q.1 e1
    · exact (f.pin q hq).2.2.2.1
  · have atL := p (G.L, oL) (by simp)
    have atC : ∀ x c, G.env.cells.lookup x = some c → s'.heap.get? c = s.heap.get? c ∧ H' c = none := fun x c e => by
      obtain ⟨o, e1, e2⟩ := csin x c e
      obtain ⟨h1, h2⟩ := p (c, o) (List.mem_append_left _ (List.mem_cons_of_mem _ e2))
      exact ⟨h1.trans e1.symm, h2⟩
    refine ⟨⟨m, ⟨oL, es, ep, atL.1, rL⟩, fun i x v h1 h2 h3 => ?_⟩, fun x c e => ?_, atL.2, fun x c e => (atC x c e).2, fun q hq => ?_, f.len⟩
    · obtain ⟨u, rv, l⟩ := hlook i x v h1 h2 h3
      refine ⟨u, rv, ?_⟩
      rcases l with l | ⟨k, c, e, o, ho, hd⟩
      · exact .inl l
      · exact .inr ⟨k, c, e, o, (atC x c e).1.trans ho, hd⟩
    · obtain ⟨v, o, ho, hd⟩ := f.cell x c e
      exact ⟨v, o, (atC x c e).1.trans ho, hd⟩
    · obtain ⟨_, _, h3, h4, h5⟩ := f.pin q hq
      obtain ⟨h1, h2⟩ := p q (List.mem_append_right _ hq)
      exact ⟨h1, h2, h3, h4, h5⟩
/-- it sleeps, and hands out ds -/
structure Sl (G : GE) (g : Nat) (ds : List PyData) (gs : GenState) (ip xo : List (Addr × Obj)) (ig : List (Nat × GenState)) (r : List Slot) (σ : L2.St) (c : Code) (tr : Sem PySem.Fin) (fs : List Frame) (W : Wd) (H : Hp) (s : Shared) : Prop where
  gen : s.gens[g]? = some gs
  goes : ∀ Z s', Seg1 (model G.P G.w) G.A Z c tr fs s' → Goes1 (model G.P G.w) G.A Z gs (.send .none) s'
  beh : Beh G g ds ip xo ig r c tr fs W (addO xo H)
  frm : Frm G ip σ H s
  reg : ∀ (i : Nat) (d : PyData), r[i]? = some (.val d) → ∃ v, σ[i]? = some (some v) ∧ IsD G.K W H v d
  no : NoOwn r
  len : σ.length = r.length
  igk : ∀ p ∈ ig, s.gens[p.1]? = some p.2 ∧ susp p.2 = true ∧ g < p.1
  low : ∀ p ∈ ip, G.L ≤ p.1
  ty : ∃ nm qn, G.oa.cls = .type "generator" ∧ G.oa.data = .fields #[.int g 0, nm, qn] ∧ G.oa.slots = #[]
  xp : Put xo H s
  xlow : ∀ p ∈ xo, G.L ≤ p.1
  dj : ∀ q ∈ xo, q.1 ≠ G.L ∧ (∀ x c, G.env.cells.lookup x = some c → c ≠ q.1) ∧ ∀ u ∈ (G.a, G.oa) :: ip, u.1 ≠ q.1
def Slp (G : GE) (g : Nat) (ds : List PyData) (gs : GenState) (W : Wd) (H : Hp) (s : Shared) : Prop := ∃ ip xo ig r σ c tr fs, Sl G g ds gs ip xo ig r σ c tr fs W H s
section
variable {G : GE} {g : Nat} {ds : List PyData} {gs : GenState} {W W' : Wd} {H H' : Hp} {s s' : Shared}
/-- its objects and generators, that the consumer keeps: then it sleeps on -/
theorem Slp.objs (ok : G.Ok) (h : Slp G g ds gs W H s) (sg : susp gs = true) : ∃ (O : List (Addr × Obj)) (J : List (Nat × GenState)), Put O H s ∧ (∀ q ∈ O, G.L ≤ q.1) ∧ (∀ p ∈ J, s.gens[p.1]? = some p.2 ∧ susp p.2 = true ∧ g ≤ p.1) ∧
    ∀ s' W' H', Put O H' s' → Lat W H W' H' → (∀ p ∈ J, s'.gens[p.1]? = some p.2) → Slp G g ds gs W' H' s' := by
  obtain ⟨ip, xo, ig, r, σ, c, tr, fs, S⟩ := h
  obtain ⟨O, h1, h2, h3⟩ := S.frm.objs ok
  refine ⟨O ++ xo, (g, gs) :: ig, fun q hq => (List.mem_append.mp hq).elim (h1 q) (S.xp q), fun q hq => (List.mem_append.mp hq).elim (h2 q) (S.xlow q), fun p hp => ?_, fun s' W' H' p l sl => ⟨ip, xo, ig, r, σ, c, tr, fs, sl _ List.mem_cons_self, S.goes, S.beh.later l.addO, h3 s' H' fun q hq => p q (List.mem_append_left _ hq), fun i d e => ?_, S.no, S.len, fun p hp => ⟨sl p (List.mem_cons_of_mem _ hp), (S.igk p hp).2⟩, S.low, S.ty, fun q hq => p q (List.mem_append_right _ hq), S.xlow, S.dj⟩⟩
  · rcases List.mem_cons.mp hp with e | hp
    · rw [e]; exact ⟨S.gen, sg, Nat.le_refl _⟩
    · exact ⟨(S.igk p hp).1, (S.igk p hp).2.1, Nat.le_of_lt (S.igk p hp).2.2⟩
  · obtain ⟨v, e1, e2⟩ := S.reg i d e
    exact ⟨v, e1, e2.lat l⟩
theorem Slp.size (h : Slp G g ds gs W H s) : G.L ≤ s.heap.objs.size := by
  obtain ⟨ip, xo, ig, r, σ, c, tr, fs, S⟩ := h
  obtain ⟨m, ⟨oL, es, ep, hL, _⟩, _⟩ := S.frm.loc
  exact Nat.le_of_lt (Heap.lt_size hL)
theorem Slp.isGen (h : Slp G g ds gs W H s) : s.heap.IsGen G.a g := by
  obtain ⟨ip, xo, ig, r, σ, c, tr, fs, S⟩ := h
  obtain ⟨nm, qn, h1, h2, h3⟩ := S.ty
  exact ⟨G.oa, nm, qn, (S.frm.pin (G.a, G.oa) List.mem_cons_self).1, h1, h2, h3⟩
/-- what the consumer has behind next(g) -/
def NextQ (G : GE) (g : Nat) (ds : List PyData) (X : Cx) (pins : List (Addr × Obj)) (σc : L2.St) (st : Sta) (W : Wd) (H : Hp) (s : Shared) (rr : Option Value) (s' : Shared) : Prop :=
  ∃ W' H', Inv X pins σc H' s' ∧ Rel G.K W' H' σc st ∧ Ext W H σc st.r W' H' σc st.r ∧ Below g s s' ∧ match ds with
    | [] => rr = none
    | d :: ds' => ∃ v x gs', rr = some v ∧ RelV x v ∧ IsD G.K W' H' x d ∧ susp gs' = true ∧ gs' ≠ .running ∧ Slp G g ds' gs' W' H' s'
theorem gen_nextB {X : Cx} {B : Around} {pins : List (Addr × Obj)} {σc : L2.St} {st : Sta} (ok : G.Ok) (F : G.For X pins) (hA : G.A = B.in1) (hroom : B.depth < recursionLimit) (I : Inv X pins σc H s) (R : Rel G.K W H σc st) (h : Slp G g ds gs W H s) :
    wpAny (model X.prog X.w) B (pyNext (.ref G.a)) (NextQ G g ds X pins σc st W H s) (fun _ _ => False) s := by
  have hL := h.size
  have hg := h.isGen
  obtain ⟨ip, xo, ig, r, σ, c, tr, fs, S⟩ := h
  have gl : g < s.gens.size := (Array.getElem?_eq_some_iff.mp S.gen).1
  have hh : B.handled = none := by have := ok.hd; rw [hA] at this; exact this
  have aw : Awake G g ip xo ig r st.s { s with heap := trunc G.L s.heap } H W σ (addO xo H) (s.setGen g .running) := by
    have w0 := wake_inv ok F I hL S.frm (allBare_setGen (g := g) (x := .running) I.bare rfl)
    have gr := S.xp.grow R.fok
    refine ⟨w0.addD S.xp (fun q hq => Nat.le_trans (Nat.le_of_eq (trunc_size hL)) (S.xlow q hq)) S.dj, gr.rel ?_, setGen_at gl, S.low, fun p hp => ?_, trunc_size hL, S.xp.exact, S.xlow, fun q hq => ?_⟩
    · have B := R.bare
      exact ⟨S.reg, fun i l e => absurd e (S.no i l), fun i j l l' a e => absurd e (S.no i l), S.len, B.sl, B.nd, B.sto, B.fok, B.lf⟩
    · obtain ⟨h1, h2, h3⟩ := S.igk p hp
      refine ⟨?_, h2, h3⟩
      show (s.gens.setIfInBounds g .running)[p.1]? = _
      rw [Array.getElem?_setIfInBounds_ne (Nat.ne_of_lt h3)]
      exact h1
    · have n := (S.xp q hq).2
      exact ⟨fun xs e => (nomatch n.symm.trans e), fun o v e => (nomatch n.symm.trans e), fun ps e => (nomatch n.symm.trans e)⟩
  have bel : ∀ {s1 : Shared} {x : GenState}, Below g (s.setGen g .running) s1 → Below g s (s1.setGen g x) := fun {s1 x} b i y hi e q => by
    have n : g ≠ i := Nat.ne_of_gt hi
    have e1 : (s.setGen g .running).gens[i]? = some y := by
      show (s.gens.setIfInBounds g .running)[i]? = _
      rw [Array.getElem?_setIfInBounds_ne n]; exact e
    show (s1.gens.setIfInBounds g x)[i]? = _
    rw [Array.getElem?_setIfInBounds_ne n]
    exact b i y hi e1 q
  have seg := beh_iff.mp S.beh st.s { s with heap := trunc G.L s.heap } H W σ (addO xo H) (s.setGen g .running) (Lat.refl W _) aw
  rw [del_add S.xp] at seg
  have back : ∀ {σ' : L2.St} {W' : Wd} {H' : Hp} {r' : List Slot} {ip' : List (Addr × Obj)} {s1 : Shared} {x : GenState}, x.bare = true → Inv (G.cx { s with heap := trunc G.L s.heap } H) ip' σ' H' s1 → Rel G.K W' H' σ' ⟨r', st.s⟩ → Ext W H σ r W' H' σ' r' →
      Inv X pins σc H' (s1.setGen g x) ∧ Rel G.K W' H' σc st ∧ Ext W H σc st.r W' H' σc st.r := fun {σ' W' H' r' ip' s1 x} hb J R' X' => by
    obtain ⟨R2, X2⟩ := R.behind R'.bare (bare_ext S.no X')
    exact ⟨sleep_inv (t := { s with heap := trunc G.L s.heap }) F I hL rfl rfl J (allBare_setGen J.bare hb), R2, X2⟩
  refine next_gen1 (P := X.prog) (w := X.w) (gs := gs)
    (F := fun s1 => ds = [] ∧ ZFin G g st.s { s with heap := trunc G.L s.heap } H W H σ r (s.setGen g .running) (.ret (.ok (.ret .none))) s1)
    (Y := fun v gs' s1 => ∃ d ds' l k c p fs, ds = d :: ds' ∧ gs' = (End.susp v false l k c p fs).genState ∧ ZYld G g st.s { s with heap := trunc G.L s.heap } H W H σ r (s.setGen g .running) d (Beh G g ds') (.susp v false l k c p fs) s1)
    hh I.nolimit hroom hg S.gen ?_ (fun v gs' s1 hb hy => ?_) fun s1 hf h' hk => ?_
  · rw [← hA, ← F.P, ← F.w]
    refine S.goes _ _ (seg.imp fun e s1 z => ?_)
    cases ds with
    | nil =>
      obtain ⟨rfl, z2⟩ := id z
      exact ⟨rfl, .inl ⟨rfl, rfl, z⟩⟩
    | cons d ds =>
      obtain ⟨_, v, l, k, c, p, fs, _, _, _, _, _, _, _, _, rfl, q, _⟩ := id z
      exact ⟨q, .inr ⟨v, false, l, k, c, p, fs, rfl, d, ds, l, k, c, p, fs, rfl, rfl, z⟩⟩
  · obtain ⟨d, ds', l, k, c, p, fs, rfl, rfl, b0, v2, l2, k2, c2, p2, fs2, x, ip', xo', ig', r', σ', W', H', e, q, rv, hx, no, aw', X', B⟩ := hy
    cases e
    have I' := aw'.inv.delO aw'.kn.known aw'.clr
    obtain ⟨J1, J2, J3⟩ := back hb I' (aw'.rel.del aw'.kn.known) X'
    have gl1 : g < s1.gens.size := (Array.getElem?_eq_some_iff.mp aw'.me).1
    have fm := I'.frm ok aw'.low
    have ne : ∀ {b : Addr} {q : Addr × Obj}, q ∈ xo' → H' b = none → b ≠ q.1 := fun {b q} hq n e => by
      rw [e, aw'.kn q hq] at n; cases n
    refine ⟨W', delO xo' H', J1, J2, J3, bel b0, v, x, (End.susp v false l k c p fs).genState, rfl, rv, hx.del aw'.kn.known, rfl, (by intro e; cases e), ip', xo', ig', r', σ', c, k (.send .none), fs, ?_⟩
    refine ⟨setGen_at gl1, fun Z s' q => q, ?_, ⟨fm.loc, fm.cell, fm.free, fm.freeC, fm.pin, fm.len⟩, (aw'.rel.del aw'.kn.known).val, no, aw'.rel.len, fun p hp => ?_, aw'.low, S.ty, aw'.put, aw'.xlow, fun q hq => ⟨Ne.symm (ne hq aw'.inv.free), fun x c e => ne hq (aw'.inv.freeC x c e), fun u hu => ne hq (aw'.inv.pin u hu).2.1⟩⟩
    · rw [add_del aw'.kn]; exact B
    · obtain ⟨h1, h2, h3⟩ := aw'.gen p hp
      refine ⟨?_, h2, h3⟩
      show (s1.gens.setIfInBounds g _)[p.1]? = _
      rw [Array.getElem?_setIfInBounds_ne (Nat.ne_of_lt h3)]
      exact h1
  · obtain ⟨rfl, _, b0, ip', r', σ', W', H', J, R', X'⟩ := hf
    obtain ⟨J1, J2, J3⟩ := back (x := .finished) rfl J R' X'
    refine ⟨W', H', J1.kept (h' := h') (t' := s1.toks) hk, J2, J3, fun i y hi e q => bel (x := .finished) b0 i y hi e q, rfl⟩
theorem gen_next {X : Cx} {pins : List (Addr × Obj)} {σc : L2.St} {st : Sta} (ok : G.Ok) (F : G.For X pins) (hA : G.A = X.A.in1) (hroom : X.A.depth < recursionLimit) (I : Inv X pins σc H s) (R : Rel G.K W H σc st) (h : Slp G g ds gs W H s) :
    wpAny (model X.prog X.w) X.A (pyNext (.ref G.a)) (NextQ G g ds X pins σc st W H s) (fun _ _ => False) s := gen_nextB ok F hA hroom I R h
end
end DL
/-! EH: a generator def, called. -/
namespace DL
open PySem PySem.Spec PyProof.Rows L2
abbrev GD := List PyData → List PyData → Prop
/-- a generator def of n parameters and N names in all -/
def mkGen (n N : Nat) (b : GMir) : GD := fun ds out => ds.length = n ∧ ∃ r1, b (ds.map Slot.val ++ List.replicate (N - n) .non) out r1
/-- what a call gives: a generator that has not begun -/
def GMadeD (P : Program) (w : World) (K : PySem.W.Frag) (base : Heap) (k : Nat) (outer : List Env) (W : Wd) (H : Hp) (s : Shared) (out : List PyData) (u : Value) (s' : Shared) : Prop :=
  ∃ (mk : Around → GE) (L a : Addr) (c : Code) (H2 : Hp), u = .ref a ∧ s'.os = s.os ∧ AllBare s'.gens ∧ Un (frs outer) [] H H2 s.heap s'.heap ∧ HOk P w H2 s'.heap ∧ Grow W H W H2 ∧ s.heap.objs.size ≤ L ∧ s'.gens[s.gens.size]? = some (.fresh c) ∧ s'.gens.size = s.gens.size + 1 ∧
    ∀ A : Around, A.guards = some [] → Room k A → A.frames = some outer → (mk A).A = A ∧ (mk A).L = L ∧ (mk A).a = a ∧ (mk A).P = P ∧ (mk A).w = w ∧ (mk A).K = K ∧ (mk A).base = base ∧ (mk A).outer = outer ∧ (mk A).Ok ∧ ∀ s2 : Shared, s2.heap = s'.heap → s2.gens[s.gens.size]? = some (.fresh c) → Slp (mk A) s.gens.size out (.fresh c) W H2 s2
theorem noOwn_start {ds : List PyData} {n : Nat} : NoOwn (ds.map Slot.val ++ List.replicate n .non) := fun i l h => by
  by_cases hi : i < ds.length
  · rw [List.getElem?_append_left (by simpa using hi), List.getElem?_map, List.getElem?_eq_getElem hi] at h
    cases h
  · rw [List.getElem?_append_right (by simpa using hi), List.getElem?_replicate] at h
    split at h <;> cases h
section
variable {P : Program} {w : World} {K : PySem.W.Frag} {mg : Str → Option Value} {base : Heap} {k : Nat} {qual : Str} {scope : Scope} {body : List Stmt} {f : Addr} {N ps : List Str} {gb : GMir} {n : Nat}
/-- the parameters are bound: the frame, the generator's object -/
theorem gen_made (S : GScope N ps scope) (hn : ps.length = n) (cdv : Value)
    (hbody : ∀ (A : Around) (outer : List Env) (L a : Addr) (oa : Obj), A.guards = some [] → Room k (A.deeper (envOfC qual scope L f cdv)) → GenSs ⟨P, w, K, mg, base, N, qual, scope, f, cdv, A, outer, L, a, oa⟩ body gb)
    {A : Around} {outer : List Env} {s s1 : Shared} {H : Hp} {W : Wd} {So : List DL.So} {us : List Value} {vs : List V} {ds out : List PyData} (e0 : Env0 P w K mg base A outer s H) (r : Vals vs us) (R : Rel K W H [] ⟨[], So⟩) (hvs : IsDs K W H vs ds) (hm : mkGen n N.length gb ds out)
    (x : InCallC s s.heap.objs.size (bindL (envOfC qual scope s.heap.objs.size f cdv).kindOf (ps.zip us) fun _ => none) (cellsFrom (s.heap.objs.size + 1) scope.names []) (bindC (envOfC qual scope s.heap.objs.size f cdv).kindOf (ps.zip us) fun _ => none) s1)
    (go : Obj) (nm qn : Value) (tk2 : Nat) (hgc : go.cls = .type "generator") (hgd : go.data = .fields #[.int s1.gens.size 0, nm, qn]) (hgs : go.slots = #[]) (hgp : ∀ h : Heap, (h.push go).get? h.objs.size = some go) :
    GMadeD P w K base (k + 1) outer W H s out (.ref s1.heap.objs.size) { s1 with gens := s1.gens.push (.fresh (.func body (envOfC qual scope s.heap.objs.size f cdv))), toks := tk2, heap := s1.heap.push go } := by
  obtain ⟨hdn, r1, hb⟩ := hm
  have hlv : vs.length = ps.length := by rw [hvs.length, hdn, hn]
  obtain ⟨h1, tk, es1, hk1⟩ := x.done
  have os1 : s1.os = s.os := by rw [es1]
  have gen1 : s1.gens = s.gens := by rw [es1]
  have lt1 : s.heap.objs.size < s1.heap.objs.size := x.toInCall.ns.lt
  have kp1 : ∀ b o, s.heap.get? b = some o → s1.heap.get? b = some o := x.toInCall.keep
  have kp2 : ∀ b o, s1.heap.get? b = some o → (s1.heap.push go).get? b = some o := fun b o e => Heap.get?_push_of_some _ e
  refine ⟨fun A => ⟨P, w, K, mg, base, N, qual, scope, f, cdv, A, outer, s.heap.objs.size, s1.heap.objs.size, go⟩, s.heap.objs.size, s1.heap.objs.size, .func body (envOfC qual scope s.heap.objs.size f cdv), H, rfl, os1, ?_, Un.kept fun b o e => kp2 b o (kp1 b o e), e0.hok.kept fun b o e => kp2 b o (kp1 b o e), Grow.refl R, Nat.le_refl _, ?_, (by show (s1.gens.push _).size = _; rw [Array.size_push, gen1]), fun Aw hgd' hrw hfr => ⟨rfl, rfl, rfl, rfl, rfl, rfl, rfl, rfl, ?_, fun s2 hs2 hg2 => ?_⟩⟩
  · exact AllBare.push (by rw [gen1]; exact e0.bare) rfl
  · show (s1.gens.push _)[s.gens.size]? = _
    rw [← gen1]
    exact Array.getElem?_push_size ..
  all_goals
    have e0w : Env0 P w K mg base Aw outer s H := ⟨hfr, e0.mod, e0.bs, e0.bsz, e0.funs, e0.frf, e0.hok, e0.bare⟩
    have I1 : Inv (gcxOf P w K mg base N qual scope f cdv Aw outer s H L2.E0 []) [] (start N vs) H s1 := inv_startG S hrw.hd e0w hlv r x
  · exact ⟨I1.ok.mod, I1.ok.kind, I1.ok.inj, I1.ok.has, fun y c e => I1.ok.cab y c rfl e, hrw.hd, hfr, I1.ok.bsz, Nat.le_of_lt lt1⟩
  · obtain ⟨R1, _⟩ := start_rel (N := N) R hvs
    have bd := hbody Aw outer s.heap.objs.size s1.heap.objs.size go hgd' (hrw.deeper _)
    rw [← hdn] at hb
    refine ⟨[], [], [], ds.map Slot.val ++ List.replicate (N.length - ds.length) .non, start N vs, .func body (envOfC qual scope s.heap.objs.size f cdv), (model P w).den (.func body (envOfC qual scope s.heap.objs.size f cdv)), [], ?_⟩
    refine ⟨hg2, fun Z s' q => ⟨rfl, q⟩, ?_, ?_, R1.val, noOwn_start, R1.len, fun p hp => (nomatch hp), fun p hp => (nomatch hp), ⟨nm, qn, hgc, ?_, hgs⟩, fun p hp => (nomatch hp), fun p hp => (nomatch hp), fun p hp => (nomatch hp)⟩
    · refine beh_iff.mpr fun S' t H0 W' σ' H' s' l aw => s1_func fun HH => ?_
      have fin := bd.run s.gens.size (.func body (envOfC qual scope s.heap.objs.size f cdv)) [] (fun f => .pure (.done (.ret (match f with | .ret v => v | _ => .none)))) HH id id [] [] [] _ out r1 [] W (addO [] H) ⟨GenW.over_func, rfl, rfl, rfl⟩ hb
        (beh_iff.mpr fun S2 t2 H2 W2 σ2 H2' s2 l2 aw2 => s1_end (.ok (.ret .none)) ⟨rfl, fun i x _ e _ => e, [], r1, σ2, W2, H2', aw2.inv, aw2.rel, by rw [delO_nil]; exact .refl⟩)
      rw [List.append_nil] at fin
      exact beh_iff.mp fin S' t H0 W' σ' H' s' l aw
    · obtain ⟨m, hns, hlook⟩ := I1.loc
      refine ⟨⟨m, hns.keeps fun b o e => by rw [hs2]; exact kp2 b o e, fun i y v q1 q2 q3 => ?_⟩, fun y c e => ?_, I1.free, I1.freeC, fun p hp => ?_, I1.len⟩
      · obtain ⟨u, rv, l⟩ := hlook i y v q1 q2 q3
        refine ⟨u, rv, ?_⟩
        rcases l with l | ⟨kd, c, e, o, ho, hd⟩
        · exact .inl l
        · exact .inr ⟨kd, c, e, o, by rw [hs2]; exact kp2 _ _ ho, hd⟩
      · obtain ⟨v, o, ho, hd⟩ := I1.cell y c e
        exact ⟨v, o, by rw [hs2]; exact kp2 _ _ ho, hd⟩
      · rw [List.mem_singleton.mp hp]
        exact ⟨by rw [hs2]; exact hgp _, I1.hok.fresh (Nat.le_refl _), Nat.ne_of_gt lt1, Nat.le_of_lt lt1, fun v q => by rw [hgd] at q; cases q⟩
    · rw [hgd, gen1]
/-- a generator def's promise -/
structure LkG (P : Program) (w : World) (K : PySem.W.Frag) (mg : Str → Option Value) (base : Heap) (k : Nat) (x : Str) (n : Nat) (m : GD) : Prop where
  ex : ∃ f : Addr, mg x = some (.ref f) ∧ PySem.W.keepIn K (.ref f) = true ∧ ∀ (A : Around) (outer : List Env) (s : Shared) (H : Hp) (us : List Value) (vs : List V) (W : Wd) (S : List So) (ds out : List PyData), A.guards = some [] → Room k A → Env0 P w K mg base A outer s H → Vals vs us → Rel K W H [] ⟨[], S⟩ → IsDs K W H vs ds → m ds out →
    codeAny (model P w) A (.call (.ref f) ⟨us, []⟩) (fun r s' => match r with | .ok (.ret u) => GMadeD P w K base k outer W H s out u s' | _ => False) s
theorem lkg_fn {x : Str} {st : Stmt} {fd : FuncData} (F : Fun K x qual st f fd) (hm : mg x = some (.ref f)) (S : GScope N ps (defScope st)) (hn : ps.length = n) (hb : Binds K fd ps [])
    (hbody : ∀ (cdv : Value) (A : Around) (outer : List Env) (L a : Addr) (oa : Obj), A.guards = some [] → Room k (A.deeper (envOfC qual (defScope st) L f cdv)) → GenSs ⟨P, w, K, mg, base, N, qual, defScope st, f, cdv, A, outer, L, a, oa⟩ (defBody st) gb) :
    LkG P w K mg base (k + 1) x n (mkGen n N.length gb) := by
  obtain ⟨oc, od, kV, doc, pm, an, cdv, ct, osl, rfl, lk, hcd⟩ := F.ex
  refine ⟨f, hm, F.kp, fun A outer s H us vs W So ds out hgd hr e0 r R hvs hmm => ?_⟩
  have hlu : us.length = ps.length := by rw [← r.length, hvs.length, hmm.1, hn]
  have KX : K.In s.heap := e0.mod.kin.keeps fun b o e => (e0.bs b o e).1
  have lim : s.heap.NoLimit := e0.mod.nolimit.keeps fun b o e => (e0.bs b o e).1
  have hkind : ∀ y ∈ ps.zip us, (defScope st).names.lookup y.1 = some .local ∨ ((defScope st).names.lookup y.1 = some .cell ∧ ((cellsFrom (s.heap.objs.size + 1) (defScope st).names []).lookup y.1).isSome = true) := fun ⟨n, v⟩ hy => by
    rcases S.par n (List.of_mem_zip hy).1 with q | q
    · exact .inl q
    · exact .inr ⟨q, PySem.W.cellsFrom_some _ _ _ (.inl q)⟩
  have b := hb s us KX (by rw [List.append_nil]; exact hlu)
  rw [List.append_nil] at b
  refine codeAny_call_generator hr.depth (KX _ _ lk) rfl S.co S.gen rfl (PySem.W.codeRec_of KX hcd) (b _ _ _ _ ?_)
  refine wpAny_newFunctionEnv_cells S.kind hkind fun env he s1 x => ?_
  subst he
  exact ⟨lim.keeps x.toInCall.keep, gen_made S hn cdv (hbody cdv) e0 r R hvs hmm x _ _ _ _ rfl rfl rfl fun h => Heap.get?_push_size _ rfl⟩
end
end DL
/-! EI: what a call of a generator def evaluates to; a for over it. -/
namespace DL
open PySem PySem.Spec PyProof.Rows L2
open Classical in
/-- what the generator will hand out -/
noncomputable def eGen (m : GD) (fl : EL) : EL := fun st => (fl st).bind fun ds s => if h : ∃ out, m ds out then .ok h.choose s else .bad
/-- a generator that has not begun, at X -/
def GNew (X : Cx) (k : Nat) (pins : List (Addr × Obj)) (σ : L2.St) (W : Wd) (H : Hp) (s : Shared) (st : Sta) (C : List PyData → Sta → Wd → Hp → Prop) (u : Value) (s' : Shared) : Prop :=
  ∃ (mk : Around → GE) (L a : Addr) (c : Code) (g : Nat) (out : List PyData) (st1 : Sta) (W2 : Wd) (H2 : Hp), u = .ref a ∧ Inv X pins σ H2 s' ∧ Rel X.K W2 H2 σ st1 ∧ Ext W H σ st.r W2 H2 σ st1.r ∧ C out st1 W2 H2 ∧ Und X pins L ∧
    s'.gens[g]? = some (.fresh c) ∧ s'.gens.size = g + 1 ∧
    ∀ A : Around, A.guards = some [] → Room k A → A.frames = some X.stack → (mk A).A = A ∧ (mk A).L = L ∧ (mk A).a = a ∧ (mk A).P = X.prog ∧ (mk A).w = X.w ∧ (mk A).K = X.K ∧ (mk A).base = X.base ∧ (mk A).outer = X.stack ∧ (mk A).Ok ∧
      ∀ s2 : Shared, s2.heap = s'.heap → s2.gens[g]? = some (.fresh c) → Slp (mk A) g out (.fresh c) W2 H2 s2
/-- an expression that makes one -/
structure PGn (X : Cx) (k : Nat) (e : Expr) (f : EL) : Prop where
  run : ∀ (pins : List (Addr × Obj)) (s : Shared) (σ : L2.St) (W : Wd) (H : Hp) (st : Sta) (C : List PyData → Sta → Wd → Hp → Prop), Inv X pins σ H s → Rel X.K W H σ st → Res X.K DL.E0 σ W H st.r (f st) C →
    wpAny (model X.prog X.w) X.A (eval e X.env) (GNew X k pins σ W H s st C) X.xe s
theorem Und.mono {X : Cx} {pins : List (Addr × Obj)} {n m : Nat} (u : Und X pins n) (h : n ≤ m) : Und X pins m :=
  ⟨Nat.le_trans u.s0 h, Nat.lt_of_lt_of_le u.loc h, fun x c e => Nat.lt_of_lt_of_le (u.cel x c e) h, fun p hp => Nat.lt_of_lt_of_le (u.pin p hp) h⟩
section
variable {X : Cx} {k : Nat}
theorem gnew_of {pins : List (Addr × Obj)} {σ : L2.St} {W W1 : Wd} {H H1 : Hp} {s s1 : Shared} {st st1 : Sta} {C : List PyData → Sta → Wd → Hp → Prop} {out : List PyData} {u : Value} {s' : Shared} (I1 : Inv X pins σ H1 s1) (R1 : Rel X.K W1 H1 σ st1) (X1 : Ext W H σ st.r W1 H1 σ st1.r)
    (hC : ∀ W' H', Rel X.K W' H' σ st1 → Ext W1 H1 σ st1.r W' H' σ st1.r → C out st1 W' H') (m : GMadeD X.prog X.w X.K X.base k X.stack W1 H1 s1 out u s') : GNew X k pins σ W H s st C u s' := by
  obtain ⟨mk, L, a, c, H2, rfl, hos, hb, un, hok, gr, hL, hg, hs, hmk⟩ := m
  refine ⟨mk, L, a, c, s1.gens.size, out, st1, W1, H2, rfl, ?_, gr.rel R1, X1.trans gr.ext, hC W1 H2 (gr.rel R1) gr.ext, I1.und.mono hL, hg, hs, hmk⟩
  obtain ⟨hh, g, d, t, os'⟩ := s'
  obtain rfl : os' = s1.os := hos
  exact I1.call (h' := hh) (g' := g) (d' := d) (t' := t) (ch := []) un hok hb (fun b z => absurd z (by simp))
theorem pgn_call {n : Nat} {m : GD} {fl : EL} {x : Str} {p pos : Pos} {e : Expr} {es : List Expr} (L : LkG X.prog X.w X.K X.mg X.base k x n m) (hr : Room k X.A) (hgd : X.A.guards = some []) (ha : PA X (e :: es) (tL X.K DL.E0 fl)) (hg : Gl X x := by rfl) (hdb : (x == ("__debug__" : Str)) = false := by decide)
    (he : starEach (e :: es) X.env = (false, eval e X.env) :: starEach es X.env := by rfl) (hpl : (backTo pos (starEach es X.env)).any (·.1) = false := by rfl) : PGn X k (.Call (.Name x p) (e :: es) [] pos) (eGen m fl) := by
  obtain ⟨f, hm, hk, F⟩ := L.ex
  constructor
  intro pins s σ W H st C I R h
  refine wpAny_Call_Name_kw (ld_glob I hg hm (PySem.W.callWith_K (h₀ := X.base) I.ok.mod.kin hk (wpAny_mono (ha.run pos pins s σ H (fun vs H1 => ∃ W1 st1 ds out, Rel X.K W1 H1 σ st1 ∧ Ext W H σ st.r W1 H1 σ st1.r ∧ IsDs X.K W1 H1 vs ds ∧ m ds out ∧ ∀ W' H', Rel X.K W' H' σ st1 → Ext W1 H1 σ st1.r W' H' σ st1.r → C out st1 W' H') I ?_) (fun us s1 z => ?_) fun _ _ q => q) he hpl) hdb)
  · refine ⟨W, st, R, h.then.imp fun ds s1 W1 H1 _ R1 X1 h1 vs hvs => ?_⟩
    by_cases hx : ∃ out, m ds out
    · rw [dif_pos hx] at h1
      exact ⟨W1, s1, ds, hx.choose, R1, X1, hvs, hx.choose_spec, h1⟩
    · rw [dif_neg hx] at h1; exact h1.elim
  · obtain ⟨vs, H1, I1, r, W1, st1, ds, out, R1, X1, hvs, hm', hC⟩ := z
    refine ⟨I1.kIn, wpAny_call (codeAny_mono (F X.A X.stack s1 H1 us vs W1 st1.s ds out hgd hr I1.env0 r R1.bare hvs hm') fun res s' z => ?_)⟩
    match res, z with
    | .ok (.ret u), z => exact gnew_of I1 R1 X1 hC z
/-- the consumer's For -/
theorem GNew.for {pins : List (Addr × Obj)} {mk : Around → GE} {L a : Addr} {A : Around} (u : Und X pins L) (h : (mk A).A = A ∧ (mk A).L = L ∧ (mk A).a = a ∧ (mk A).P = X.prog ∧ (mk A).w = X.w ∧ (mk A).K = X.K ∧ (mk A).base = X.base ∧ (mk A).outer = X.stack ∧ (mk A).Ok ∧ True) : (mk A).For X pins :=
  ⟨h.2.2.2.1, h.2.2.2.2.1, h.2.2.2.2.2.2.1, h.2.2.2.2.2.2.2.1, by rw [h.2.1]; exact u⟩
end
end DL
/-! EJ: for over a generator, in plain code. -/
namespace DL
open PySem PySem.Spec PyProof.Rows L2
theorem weakF {α : Type} {M : Model} {A : Around} {t : Sem α} {Q : α → Shared → Prop} {E : Value → Shared → Prop} {s : Shared} (h : wpAny M A t Q (fun _ _ => False) s) : wpAny M A t Q E s := wpAny_mono h (fun _ _ q => q) fun _ _ q => q.elim
theorem Sleeps.trans {G : Array GenState} {s1 s2 : Shared} (a : Sleeps G s1) (b : Sleeps s1.gens s2) : Sleeps G s2 := fun i x e q => b i x (a i x e q) q
section
variable {O : List (Addr × Obj)} {H H9 : Hp} {s s9 : Shared}
theorem knowns_of (h : ∀ a ∈ O.map (·.1), H9 a = addO O H a) : Known O H9 := fun p hp => by
  obtain ⟨q, _, _, e⟩ := addO_in (O := O) (H := H) (List.mem_map.mpr ⟨p, hp, rfl⟩)
  exact ⟨q.2, (h p.1 (List.mem_map.mpr ⟨p, hp, rfl⟩)).trans e⟩
theorem put_after {P : Program} {w : World} (p : Put O H s) (h : ∀ a ∈ O.map (·.1), H9 a = addO O H a) (hok : HOk P w H9 s9.heap) : Put O (delO O H9) s9 := fun q hq => by
  have hm : q.1 ∈ O.map (·.1) := List.mem_map.mpr ⟨q, hq, rfl⟩
  obtain ⟨q2, hq2, e1, e2⟩ := addO_in (O := O) (H := H) hm
  have e3 := (h q.1 hm).trans e2
  have e4 := (hok _ _ e3).1
  have e5 := (p q hq).1
  have e6 := (p q2 hq2).1
  rw [e1, e5] at e6
  exact ⟨e4.trans (by rw [Option.some.inj e6]), delO_in hm⟩
end
section
variable {X : Cx} {k : Nat} {tg iter : Expr} {body : List Stmt} {pos : Pos} {f : EL} {gt : TGT} {is : List Nat} {sb : SD}
theorem ds_forG (hx : X.xe = fun _ _ => False) (hi : PGn X k iter f) (hr : Room (k + 1) X.A) (hgd : X.A.guards = some []) (hg : PG X tg (tG X.K false is gt)) (hb : PSs X body (tS X.K DL.E0 sb))
    (hs : ∀ x, foldedSetIterable iter X.env x = pure x := by intro _; rfl) : PS X (.For tg iter body [] pos) (tS X.K DL.E0 (sFor f gt sb)) := by
  refine ⟨fun pins s σ H D I h => ?_⟩
  obtain ⟨W, st, R, h⟩ := h
  rw [hx]
  have hrun := hi.run pins s σ W H st _ I R h.then
  rw [hx] at hrun
  refine wpAny_For (wpAny_mono hrun (fun u s1 q => ?_) fun _ _ q => q) hs
  obtain ⟨mk, L, a, c, g, out, st1, W2, H2, rfl, I2, R2, X2, C2, u2, hgen, hgs, hmk⟩ := q
  obtain ⟨eA, eL, ea, eP, ew, eK, eb, eo, ok, slp⟩ := hmk X.A.in1 hgd hr.in1 I2.ok.frames
  generalize mk X.A.in1 = G at *
  subst ea
  have F : G.For X pins := ⟨eP, ew, eb, eo, by rw [eL]; exact u2⟩
  have S0 := slp s1 rfl hgen
  refine wpAny_pyIter_gen S0.isGen ?_
  refine codeAny_forLoop_any (fun n s' => ∃ σi Hi Wi sti gs ds, n = ds.length ∧ Inv X pins σi Hi s' ∧ Rel X.K Wi Hi σi sti ∧ Slp G g ds gs Wi Hi s' ∧ ResS X.K DL.E0 σi Wi Hi sti.r (forD gt sb ds sti) D) ?_ out.length ⟨σ, H2, W2, st1, _, out, rfl, I2, R2, S0, C2⟩
  rintro n s3 ⟨σi, Hi, Wi, sti, gs, ds, rfl, I3, R3, S3, h3⟩
  have R3' : Rel G.K Wi Hi σi sti := by rw [eK]; exact R3
  refine wpAny_mono (gen_next ok F eA hr.depth I3 R3' S3) (fun rr s4 q => ?_) fun _ _ z => z.elim
  obtain ⟨W4, H4, I4, R4, X4, _, q⟩ := q
  rw [eK] at R4
  cases ds with
  | nil =>
    have q : rr = none := q
    subst q
    exact wpAny_execs_nil ⟨σi, H4, I4, h3 σi W4 H4 R4 X4⟩
  | cons d ds =>
    obtain ⟨v, x, gs', rfl, rv, hxd, sg, ne, S4⟩ := q
    rw [eK] at hxd
    obtain ⟨o, nm, qn, ho, hcl, hda, _⟩ := S4.isGen
    refine go_of ho hcl hda (by decide) ?_
    obtain ⟨O, J, pO, lO, jO, kO⟩ := S4.objs ok sg
    have IA := I4.addO pO F.und lO
    have gr := pO.grow R4.fok
    have RA := gr.rel R4
    have clr := I4.clr pO
    unfold forD at h3
    cases eg : gt d sti with
    | none => rw [eg] at h3; exact h3.elim
    | some s5 =>
    rw [eg] at h3
    dsimp only at h3
    refine weakF (over_kp IA fun s6 hs6 I6 => ?_)
    have run1 := hg.run pins s6 σi (addO O H4) x v (fun σ' H' => ∃ W', Rel X.K W' H' σ' s5 ∧ Ext W4 (addO O H4) σi sti.r W' H' σ' s5.r) I6 rv ⟨W4, sti, d, s5, RA, .inl (hxd.lat gr.lat), eg, fun σ' _ R6 X6 => ⟨W4, R6, X6⟩⟩
    rw [hx] at run1
    refine wpAny_mono run1 (fun _ s7 q7 g7 kp7 => ?_) fun _ _ q => q
    obtain ⟨σ7, H7, I7, W7, R7, X7⟩ := q7
    refine weakF (over_kp (I7.gens (kp7.bare I7.bare)) fun s8 hs8 I8 => ?_)
    have kn : ∀ {σ' : L2.St} {W' : Wd} {H' : Hp} {r' : List Slot}, Ext W4 (addO O H4) σi sti.r W' H' σ' r' → ∀ a ∈ O.map (·.1), H' a = addO O H4 a := fun x => x.known pO R4
    have run2 := hb.run pins s8 σ7 H7 { nx := fun σ' H' => ∃ W' st', sb s5 = .nx st' ∧ Rel X.K W' H' σ' st' ∧ Ext W4 (addO O H4) σi sti.r W' H' σ' st'.r, rt := fun v H' => ∃ σ' W' st' d', sb s5 = .rt d' st' ∧ Rel X.K W' H' σ' st' ∧ Ext W4 (addO O H4) σi sti.r W' H' σ' st'.r ∧ IsD X.K W' H' v d', bk := fun σ' H' => ∃ W' st', sb s5 = .bk st' ∧ Rel X.K W' H' σ' st' ∧ Ext W4 (addO O H4) σi sti.r W' H' σ' st'.r, ct := fun σ' H' => ∃ W' st', sb s5 = .ct st' ∧ Rel X.K W' H' σ' st' ∧ Ext W4 (addO O H4) σi sti.r W' H' σ' st'.r } I8 ⟨W7, s5, R7, ?_⟩
    · rw [hx] at run2
      refine wpAny_mono run2 (fun fl s9 q9 g9 kp9 => ?_) fun _ _ q => q
      have sl : Sleeps s4.gens { s9 with gens := g9 } := Sleeps.trans (s1 := { s7 with gens := g7 }) kp7.sleeps kp9.sleeps
      have fin : ∀ {σ9 : L2.St} {H9 : Hp} {W9 : Wd} {st9 : Sta}, Inv X pins σ9 H9 s9 → Rel X.K W9 H9 σ9 st9 → Ext W4 (addO O H4) σi sti.r W9 H9 σ9 st9.r →
          Inv X pins σ9 (delO O H9) { s9 with gens := g9 } ∧ Rel X.K W9 (delO O H9) σ9 st9 ∧ Ext Wi Hi σi sti.r W9 (delO O H9) σ9 st9.r ∧ Slp G g ds gs' W9 (delO O H9) { s9 with gens := g9 } := fun {σ9 H9 W9 st9} I9 R9 X9 => by
        have K9 := knowns_of (kn X9)
        have E9 := X9.del pO
        have I9' := I9.gens (kp9.bare I9.bare)
        exact ⟨I9'.delO K9 clr, R9.del K9, X4.trans E9, kO _ W9 _ (put_after pO (kn X9) I9'.hok) (R4.lat E9) fun p hp => sl p.1 p.2 (jO p hp).1 (jO p hp).2.1⟩
      cases fl with
      | next =>
        obtain ⟨σ9, H9, I9, W9, st9, eb, R9, X9⟩ := q9
        rw [eb] at h3
        obtain ⟨a1, a2, a3, a4⟩ := fin I9 R9 X9
        exact ⟨ds.length, Nat.lt_succ_self _, σ9, _, W9, st9, gs', ds, rfl, a1, a2, a4, ResS.base a3 h3⟩
      | cont =>
        obtain ⟨σ9, H9, I9, W9, st9, eb, R9, X9⟩ := q9
        rw [eb] at h3
        obtain ⟨a1, a2, a3, a4⟩ := fin I9 R9 X9
        exact ⟨ds.length, Nat.lt_succ_self _, σ9, _, W9, st9, gs', ds, rfl, a1, a2, a4, ResS.base a3 h3⟩
      | brk =>
        obtain ⟨σ9, H9, I9, W9, st9, eb, R9, X9⟩ := q9
        rw [eb] at h3
        obtain ⟨a1, a2, a3, a4⟩ := fin I9 R9 X9
        exact ⟨σ9, _, a1, h3 σ9 W9 _ a2 a3⟩
      | ret u =>
        obtain ⟨y, σ9, H9, I9, ry, σ', W9, st9, d', eb, R9, X9, hd⟩ := q9
        rw [eb] at h3
        have K9 := knowns_of (kn X9)
        have E9 := X9.del pO
        exact ⟨y, σ9, delO O H9, (I9.gens (kp9.bare I9.bare)).delO K9 clr, ry, h3 σ' W9 _ y (R9.del K9) (X4.trans E9) (hd.del K9)⟩
    · cases eb : sb s5 with
      | nx st' => exact fun σ' W' H' R' X' => ⟨W', st', rfl, R', X7.trans X'⟩
      | ct st' => exact fun σ' W' H' R' X' => ⟨W', st', rfl, R', X7.trans X'⟩
      | bk st' => exact fun σ' W' H' R' X' => ⟨W', st', rfl, R', X7.trans X'⟩
      | rt d' st' => exact fun σ' W' H' v R' X' hv => ⟨σ', W', st', d', rfl, R', X7.trans X', hv⟩
      | ex c st' =>
        rw [eb] at h3
        exact fun σ' W' H' R' X' => h3 σ' W' (delO O H') (R'.del (knowns_of (kn (X7.trans X')))) (X4.trans ((X7.trans X').del pO))
      | bad => rw [eb] at h3; exact h3.elim
end
end DL
/-! EK: generator defs with a star parameter; calls with a star. -/
namespace DL
open PySem PySem.Spec PyProof.Rows L2
def packG (n : Nat) (m : GD) : GD := fun ds out => n ≤ ds.length ∧ ds.length ≤ 16777216 ∧ m (packD n ds) out
theorem GMadeD.up {P : Program} {w : World} {K : PySem.W.Frag} {base : Heap} {k : Nat} {outer : List Env} {W : Wd} {H H2 : Hp} {s s2 : Shared} {out : List PyData} {u : Value} {s' : Shared} (h : GMadeD P w K base k outer W H2 s2 out u s')
    (un : Un (frs outer) [] H H2 s.heap s2.heap) (gr : Grow W H W H2) (os : s2.os = s.os) (gs : s2.gens = s.gens) (sz : s.heap.objs.size ≤ s2.heap.objs.size) : GMadeD P w K base k outer W H s out u s' := by
  obtain ⟨mk, L, a, c, H3, hu, hos, hb, un2, hok, g2, hL, hg, hz, hmk⟩ := h
  rw [gs] at hg hz hmk
  exact ⟨mk, L, a, c, H3, hu, hos.trans os, hb, un.trans un2, hok, gr.trans g2, Nat.le_trans sz hL, hg, hz, hmk⟩
section
variable {P : Program} {w : World} {K : PySem.W.Frag} {mg : Str → Option Value} {base : Heap} {k n : Nat} {x qual : Str} {st : Stmt} {f : Addr} {fd : FuncData} {N ps : List Str} {gb : GMir} {pv : Str}
theorem lkgs_fn (F : Fun K x qual st f fd) (hm : mg x = some (.ref f)) (S : GScope N (ps ++ [pv]) (defScope st)) (hn : ps.length = n) (hb : StarBinds x qual st ps pv)
    (hbody : ∀ (cdv : Value) (A : Around) (outer : List Env) (L a : Addr) (oa : Obj), A.guards = some [] → Room k (A.deeper (envOfC qual (defScope st) L f cdv)) → GenSs ⟨P, w, K, mg, base, N, qual, defScope st, f, cdv, A, outer, L, a, oa⟩ (defBody st) gb) :
    LkG P w K mg base (k + 1) x n (packG n (mkGen (n + 1) N.length gb)) := by
  obtain ⟨oc, od, kV, doc, pm, an, cdv, ct, osl, rfl, lk, hcd⟩ := F.ex
  refine ⟨f, hm, F.kp, fun A outer s H us vs W So ds out hgd hr e0 r R hvs hmm => ?_⟩
  obtain ⟨h1, h2, hmm⟩ := hmm
  have hlen := hvs.length
  obtain ⟨u1, u2, eu, r1, r2⟩ := StX.vals_split (ws := vs.take n) (rest := vs.drop n) (by rw [List.take_append_drop]; exact r)
  subst eu
  have hn0 : H s.heap.objs.size = none := e0.hok.fresh (Nat.le_refl _)
  have l1 : u1.length = ps.length := by rw [← r1.length, List.length_take]; omega
  have lr : (vs.drop n).length ≤ sizeLine := by rw [List.length_drop, sizeLine_eq]; omega
  have l2 : u2.length ≤ sizeLine := by rw [← r2.length]; exact lr
  have KX : K.In s.heap := e0.mod.kin.keeps fun b o e => (e0.bs b o e).1
  have lim : s.heap.NoLimit := e0.mod.nolimit.keeps fun b o e => (e0.bs b o e).1
  refine codeAny_call_generator hr.depth (KX _ _ lk) rfl S.co S.gen rfl (PySem.W.codeRec_of KX hcd) ?_
  rw [hb kV doc pm an cdv ct u1 u2 l1]
  refine wpAny_bind (wpAny_newTuple (wpAny_pure ?_) l2)
  have hpush : (s.heap.push ({ cls := .type "tuple", data := .seq u2.toArray } : Obj)).get? s.heap.objs.size = some { cls := .type "tuple", data := .seq u2.toArray } := Heap.get?_push_size _ rfl
  have new : ObjOk P w (upd H s.heap.objs.size (.frz { cls := .type "tuple", data := .seq u2.toArray } (.tup (vs.drop n)))) (s.heap.push ({ cls := .type "tuple", data := .seq u2.toArray } : Obj)) s.heap.objs.size (.frz { cls := .type "tuple", data := .seq u2.toArray } (.tup (vs.drop n))) :=
    ⟨hpush, lr, u2, r2, ⟨_, hpush, rfl, _, rfl⟩⟩
  have un := StX.un_laid (fs := frs outer) (s := s) (o := ({ cls := .type "tuple", data := .seq u2.toArray } : Obj)) (u := .frz { cls := .type "tuple", data := .seq u2.toArray } (.tup (vs.drop n))) hn0
  have e1 := StX.env0_laid e0 new
  have rv : Vals (vs.take n ++ [V.ref s.heap.objs.size]) (u1 ++ [Value.ref s.heap.objs.size]) := r1.append (.cons rfl .nil)
  have gr : Grow W H W (upd H s.heap.objs.size (.frz { cls := .type "tuple", data := .seq u2.toArray } (.tup (vs.drop n)))) := Fok.new R.fok hn0
  have hvs2 : IsDs K W (upd H s.heap.objs.size (.frz { cls := .type "tuple", data := .seq u2.toArray } (.tup (vs.drop n)))) (vs.take n ++ [V.ref s.heap.objs.size]) (packD n ds) :=
    ((hvs.take n).lat gr.lat).append (.cons (.tup (TupR.new rfl rfl) (by rw [List.length_drop, sizeLine_eq]; omega) ((hvs.drop n).lat gr.lat)) .nil)
  have ez : ps.zip u1 ++ [(pv, Value.ref s.heap.objs.size)] = (ps ++ [pv]).zip (u1 ++ [Value.ref s.heap.objs.size]) := by rw [List.zip_append l1.symm]; rfl
  rw [ez]
  have hlu : (u1 ++ [Value.ref s.heap.objs.size]).length = (ps ++ [pv]).length := by simp [l1]
  have hkind : ∀ y ∈ (ps ++ [pv]).zip (u1 ++ [Value.ref s.heap.objs.size]), (defScope st).names.lookup y.1 = some .local ∨ ((defScope st).names.lookup y.1 = some .cell ∧ ((cellsFrom ((s.heap.push ({ cls := .type "tuple", data := .seq u2.toArray } : Obj)).objs.size + 1) (defScope st).names []).lookup y.1).isSome = true) := fun ⟨n, v⟩ hy => by
    rcases S.par n (List.of_mem_zip hy).1 with q | q
    · exact .inl q
    · exact .inr ⟨q, PySem.W.cellsFrom_some _ _ _ (.inl q)⟩
  refine wpAny_newFunctionEnv_cells S.kind hkind fun env he s1 x => ?_
  subst he
  refine ⟨(lim.keeps fun b o e => Heap.get?_push_of_some _ e).keeps x.toInCall.keep, ?_⟩
  refine (gen_made S (by simp [hn]) cdv (hbody cdv) e1 rv (gr.rel R) hvs2 hmm x _ _ _ _ rfl rfl rfl fun h => Heap.get?_push_size _ rfl).up un gr rfl rfl ?_
  show s.heap.objs.size ≤ (s.heap.push _).objs.size
  rw [Heap.size_push]
  exact Nat.le_succ _
end
section
variable {X : Cx} {k : Nat}
/-- f(*x) -/
theorem pgn_star {n : Nat} {m : GD} {fa : ED} {x : Str} {p pos sp_ : Pos} {e : Expr} (L : LkG X.prog X.w X.K X.mg X.base k x n m) (hr : Room k X.A) (hgd : X.A.guards = some []) (he : PE X e (tD X.K DL.E0 fa)) (hg : Gl X x := by rfl) (hdb : (x == ("__debug__" : Str)) = false := by decide)
    (hst : starEach [.Starred e sp_] X.env = [(true, eval e X.env)] := by rfl) : PGn X k (.Call (.Name x p) [.Starred e sp_] [] pos) (eGen m (eStarAll fa)) := by
  obtain ⟨f, hm, hk, F⟩ := L.ex
  constructor
  intro pins s σ W H st C I R h
  refine wpAny_Call_Name_kw (ld_glob I hg hm (PySem.W.callWith_S (h₀ := X.base) I.ok.mod.kin hk ?_ hst) hdb)
  have h2 : tD X.K DL.E0 fa σ H fun y H1 => ∃ a xs, y = .ref a ∧ (SqT X.K H1 a xs ∨ SqL X.K H1 a xs) ∧ ∃ W1 st1 ds out, Rel X.K W1 H1 σ st1 ∧ Ext W H σ st.r W1 H1 σ st1.r ∧ IsDs X.K W1 H1 xs ds ∧ m ds out ∧ ∀ W' H', Rel X.K W' H' σ st1 → Ext W1 H1 σ st1.r W' H' σ st1.r → C out st1 W' H' := by
    unfold eGen eStarAll at h
    refine tD_of R (h.then.then.imp fun y s1 W1 H1 _ R1 X1 h1 v hv => ?_)
    cases ey : itemsOf y with
    | none => rw [ey] at h1; exact h1.elim
    | some ys =>
      rw [ey] at h1
      obtain ⟨q, xs, rfl, hq, hxs, _⟩ := hv.items ey
      have h1 := h1 W1 H1 R1 .refl
      dsimp only at h1
      by_cases hx : ∃ out, m ys out
      · rw [dif_pos hx] at h1
        exact ⟨q, xs, rfl, hq, W1, s1, ys, hx.choose, R1, X1, hxs, hx.choose_spec, h1⟩
      · rw [dif_neg hx] at h1; exact h1.elim
  refine wpAny_mono (he.run pins s σ H _ I h2) (fun v s1 ⟨y, H1, I1, ry, a, xs, ey, hxs, W1, st1, ds, out, R1, X1, hvs, hm', hC⟩ => ?_) fun _ _ q => q
  subst ey
  cases ry
  refine StX.star_any I1 hxs fun us s2 I2 rv => ?_
  refine ⟨I2.kIn, wpAny_call (codeAny_mono (F X.A X.stack s2 H1 us xs W1 st1.s ds out hgd hr I2.env0 rv R1.bare hvs hm') fun res s' z => ?_)⟩
  match res, z with
  | .ok (.ret u), z => exact gnew_of I2 R1 X1 hC z
end
end DL
/-! EL: for over a generator, in a generator. -/
namespace DL
open PySem PySem.Spec PyProof.Rows L2
theorem delO_append {O O' : List (Addr × Obj)} {H : Hp} : delO (O ++ O') H = delO O (delO O' H) := by
  funext b
  unfold delO
  rw [List.map_append]
  by_cases h : b ∈ O.map (·.1)
  · rw [if_pos (List.mem_append_left _ h), if_pos h]
  · rw [if_neg h]
    by_cases h' : b ∈ O'.map (·.1)
    · rw [if_pos (List.mem_append_right _ h'), if_pos h']
    · rw [if_neg (fun q => (List.mem_append.mp q).elim h h'), if_neg h']
theorem Below.less {g g' : Nat} {s s' : Shared} (h : Below g' s s') (l : g ≤ g') : Below g s s' := fun i x hi e q => h i x (Nat.lt_of_lt_of_le hi l) e q
section
variable {G : GE} {g k : Nat} {ip xo : List (Addr × Obj)} {ig : List (Nat × GenState)} {tg : Expr} {body : List Stmt} {b : GMir} {gt : TGT} {is : List Nat} {c : Code} {fs : List Frame}
theorem forG_loop {Gi : GE} {gi : Nat} {rest : List PyData} {K : Flow → Sem PySem.Fin} {kk : Result → Sem PySem.Fin} {gd : Bool → Bool} {l : List Value} {p : Pos} {r1 : List Slot} {Wc : Wd} {Hc : Hp}
    (gc : GCd G c fs gd) (ok : Gi.Ok) (eK : Gi.K = G.K) (F : ∀ t H0, t.heap.objs.size = G.L → Gi.For (G.cx t H0) ip) (hA : Gi.A = (G.A.deeper G.env).in1) (hdp : (G.A.deeper G.env).depth < recursionLimit) (hgi : g < gi) (higi : ∀ q ∈ ig, q.1 < gi)
    (hk : ∀ f s' Z', Seg1 (model G.P G.w) G.A Z' c (K f) fs s' → Seg1 (model G.P G.w) G.A Z' c (kk (.ok f)) fs s')
    (hg : ∀ t H0, PG (G.cx t H0) tg (tG G.K false is gt)) (hb : GenSs G body b) (hr : ∀ {W1 H2}, Lat Wc Hc W1 H2 → Beh G g rest ip xo ig r1 c (K .next) fs W1 H2) :
    ∀ (ys : List PyData) (r : List Slot) (ds : List PyData) (S : List So) (t : Shared) (H0 : Hp) (W : Wd) (σ : L2.St) (H : Hp) (s : Shared) (gs : GenState), gLoop gt b ys r ds r1 → Lat Wc Hc W H → Awake G g ip xo ig r S t H0 W σ H s → Slp Gi gi ys gs W H s →
      Seg1 (model G.P G.w) G.A (Zof G g (ds ++ rest) S t H0 W (delO xo H) σ r s) (.forLoop tg (.ref Gi.a) body [] G.env) ((model G.P G.w).den (.forLoop tg (.ref Gi.a) body [] G.env)) (.ret kk none (gd false) l c p [] :: fs) s := by
  intro ys
  induction ys with
  | nil =>
    intro r ds S t H0 W σ H s gs m lc aw S0
    obtain ⟨rfl, rfl⟩ := m
    refine s1_turn ?_
    rw [(gc_ret (k := kk) (l := l) (kp := []) (p := p) gc (c' := .forLoop tg (.ref Gi.a) body [] G.env) rfl rfl).over]
    have R0 := aw.rel
    rw [← eK] at R0
    refine wpAny_mono (gen_next (X := G.cx t H0) ok (F t H0 aw.sz) hA hdp aw.inv R0 S0) (fun rr s4 q => ?_) fun _ _ q => q
    obtain ⟨W4, H4, I4, R4, X4, bel, q⟩ := q
    have q : rr = none := q
    subst q
    rw [eK] at R4
    have aw4 : Awake G g ip xo ig r1 S t H0 W4 σ H4 s4 := ⟨I4, R4, bel g _ hgi aw.me rfl, aw.low, fun q hq => ⟨bel q.1 q.2 (higi q hq) (aw.gen q hq).1 (aw.gen q hq).2.1, (aw.gen q hq).2⟩, aw.sz, aw.exact X4, aw.xlow, aw.clr⟩
    refine s1_leaf (.ok .next) (hk .next _ _ ?_)
    exact (beh_iff.mp (hr (lc.trans (aw.lat X4))) S t H0 W4 σ H4 _ (Lat.refl W4 H4) aw4).imp fun e s' z => z.base (aw.strip X4) (bel.less (Nat.le_of_lt hgi))
  | cons y ys ih =>
    intro r ds S t H0 W σ H s gs m lc aw S0
    obtain ⟨d1, d2, r2, r3, rfl, mg, mb, ml⟩ := m
    refine s1_turn ?_
    have gc' := gc_ret (k := kk) (l := l) (kp := []) (p := p) gc (c' := .forLoop tg (.ref Gi.a) body [] G.env) rfl rfl
    rw [gc'.over]
    have R0 := aw.rel
    rw [← eK] at R0
    have Fi := F t H0 aw.sz
    refine wpAny_mono (gen_next (X := G.cx t H0) ok Fi hA hdp aw.inv R0 S0) (fun rr s4 q => ?_) fun _ _ q => q
    obtain ⟨W4, H4, I4, R4, X4, bel, v, x, gs', rfl, rv, hxd, sg, ne, S4⟩ := q
    rw [eK] at R4 hxd
    obtain ⟨o, nm, qn, ho, hcl, hda, _⟩ := S4.isGen
    refine go_of ho hcl hda (by decide) ?_
    obtain ⟨O, J, pO, lO, jO, kO⟩ := S4.objs ok sg
    have gr := pO.grow R4.fok
    have clr := I4.clr pO
    have kn4 := aw.exact X4
    have IA := I4.addO pO Fi.und lO
    have gLi : G.L ≤ Gi.L := Nat.le_of_lt Fi.und.loc
    have aw5 : Awake G g ip (xo ++ O) (ig ++ J) r S t H0 W4 σ (addO O H4) s4 := by
      refine ⟨IA, gr.rel R4, bel g _ hgi aw.me rfl, aw.low, fun q hq => ?_, aw.sz, fun q hq => ?_, fun q hq => ?_, fun q hq => ?_⟩
      · rcases List.mem_append.mp hq with hq | hq
        · exact ⟨bel q.1 q.2 (higi q hq) (aw.gen q hq).1 (aw.gen q hq).2.1, (aw.gen q hq).2⟩
        · exact ⟨(jO q hq).1, (jO q hq).2.1, Nat.lt_of_lt_of_le hgi (jO q hq).2.2⟩
      · rcases List.mem_append.mp hq with hq | hq
        · exact pO.more (kn4 q hq)
        · exact pO.exact q hq
      · rcases List.mem_append.mp hq with hq | hq
        · exact aw.xlow q hq
        · exact Nat.le_trans gLi (lO q hq)
      · rcases List.mem_append.mp hq with hq | hq
        · exact aw.clr q hq
        · exact clr q hq
    refine over_kp (X := G.cx t H0) IA fun s6 hs6 I6 => ?_
    refine wpAny_mono ((hg t H0).run ip s6 σ (addO O H4) x v (fun σ' H' => ∃ W', Rel G.K W' H' σ' ⟨r2, S⟩ ∧ Ext W4 (addO O H4) σ r W' H' σ' r2) I6 rv ⟨W4, ⟨r, S⟩, y, ⟨r2, S⟩, gr.rel R4, .inl (hxd.lat gr.lat), mg S, fun σ' _ R6 X6 => ⟨W4, R6, X6⟩⟩) (fun _ s7 q g7 kp7 HH => ?_) fun _ _ q => q
    obtain ⟨σ7, H7, I7, W7, R7, X57⟩ := q
    have aw7 := aw5.go (I7.gens (kp7.bare I7.bare)) R7 X57 kp7.sleeps
    have lat47 := aw5.lat X57
    have body' := hb.run g (.forLoop tg (.ref Gi.a) body [] G.env) (.ret kk none (gd false) l c p [] :: fs) (fun f => match f with
            | .next | .cont => .pure (.again (.forLoop tg (.ref Gi.a) body [] G.env))
            | .brk => .pure (.done .next)
            | .ret v => .pure (.done (.ret v))) HH id id ip (xo ++ O) (ig ++ J) r2 d1 r3 (d2 ++ rest) W7 H7 gc' mb
      (beh_iff.mpr fun S' t' H0' W' σ' H' s' l' a => s1_again rfl (by
        have exO : Exact O H' := fun q hq => a.kn q (List.mem_append_right _ hq)
        have clO : Clr (G.cx t' H0') O := fun q hq => a.clr q (List.mem_append_right _ hq)
        have lat' : Lat W4 H4 W' (delO O H') := Lat.delO pO exO.known a.rel.fok (lat47.trans l')
        have awR : Awake G g ip xo ig r3 S' t' H0' W' σ' (delO O H') s' := ⟨a.inv.delO exO.known clO, a.rel.del exO.known, a.me, a.low, fun q hq => a.gen q (List.mem_append_left _ hq), a.sz, fun q hq => (delO_out (pO.out (kn4 q hq))).trans (a.kn q (List.mem_append_left _ hq)), fun q hq => a.xlow q (List.mem_append_left _ hq), fun q hq => a.clr q (List.mem_append_left _ hq)⟩
        have sR := kO s' W' (delO O H') (exO.put a.inv.hok) lat' fun q hq => (a.gen q (List.mem_append_right _ hq)).1
        have := ih r3 d2 S' t' H0' W' σ' (delO O H') s' gs' ml ((lc.trans (aw.lat X4)).trans lat') awR sR
        rw [← delO_append] at this
        exact this))
    rw [List.append_assoc]
    have st5 := aw5.strip X57
    rw [delO_append, del_add pO] at st5
    exact (beh_iff.mp body' S t H0 W7 σ7 H7 _ (Lat.refl W7 H7) aw7).imp fun e s' z => z.base ((aw.strip X4).trans st5) ((bel.less (Nat.le_of_lt hgi)).trans (Sleeps.below kp7.sleeps))
/-- for over a generator, in a generator -/
theorem gs_forG {iter : Expr} {pos : Pos} {fi : EL} (hi : ∀ t H0, PGn (G.cx t H0) k iter fi) (hr : Room (k + 1) (G.A.deeper G.env)) (hgd : (G.A.deeper G.env).guards = some []) (hg : ∀ t H0, PG (G.cx t H0) tg (tG G.K false is gt)) (hb : GenSs G body b)
    (hs : ∀ x, foldedSetIterable iter G.env x = pure x := by intro _; rfl) : GenS G (.For tg iter body [] pos) (gFor fi gt b) := ⟨fun g c fs K J gd lv ip xo ig r ds r1 rest W0 H1 gc m kc => by
  obtain ⟨xs, r2, mi, ml⟩ := m
  refine beh_iff.mpr fun S t H0 W σ H s l aw => s1_For ?_ hs
  rw [gc.over]
  refine over_kp (X := G.cx t H0) aw.inv fun s0 hs0 I0 => ?_
  refine wpAny_mono ((hi t H0).run ip s0 σ W H ⟨r, S⟩ (fun out st1 _ _ => out = xs ∧ st1 = ⟨r2, S⟩) I0 aw.rel ?_) (fun u s1 q g' kp => ?_) fun _ _ q => q
  · rw [mi S]
    exact fun W' H' R X => ⟨rfl, rfl⟩
  obtain ⟨mk, L, a, cc, gi, out, st1, W2, H2, rfl, I2, R2, X2, ⟨rfl, rfl⟩, u2, hgen, hsz, hmk⟩ := q
  obtain ⟨eA, eL, ea, eP, ew, eK, eb, eo, ok, slp⟩ := hmk ((G.A.deeper G.env).in1) hgd hr.in1 I2.ok.frames
  generalize mk ((G.A.deeper G.env).in1) = Gi at *
  subst ea
  have hgr : g'[gi]? = some (.fresh cc) := (kp.get hgen (not_stuck rfl)).1
  have S0 := slp { s1 with gens := g' } rfl hgr
  have hgz : g'.size = gi + 1 := by rw [← kp.sz]; exact hsz
  have aw2 := aw.go (I2.gens (kp.bare I2.bare)) R2 X2 kp.sleeps
  have lt_of : ∀ {i : Nat} {x : GenState}, g'[i]? = some x → susp x = true → i < gi := fun {i x} e q => by
    have h1 := (Array.getElem?_eq_some_iff.mp e).1
    have h2 : i ≠ gi := fun z => by subst z; rw [hgr] at e; cases e; cases q
    omega
  refine wpAny_pyIter_gen S0.isGen ?_
  intro kk p hk
  have key := forG_loop (g := g) (xo := xo) (ig := ig) (rest := rest) (K := K) (l := lv []) (p := p) (r1 := r1) (Wc := W2) (Hc := H2) gc ok eK
    (fun t' H0' ht' => ⟨eP, ew, eb, eo, ⟨by rw [eL]; exact Nat.le_trans (Nat.le_of_eq (ht'.trans aw.sz.symm)) u2.s0, by rw [eL]; exact u2.loc, by rw [eL]; exact u2.cel, by rw [eL]; exact u2.pin⟩⟩) eA hr.depth
    (lt_of aw2.me rfl) (fun q hq => lt_of (aw2.gen q hq).1 (aw2.gen q hq).2.1) hk hg hb (fun l3 => kc.later ((l.trans (aw.lat X2)).trans l3)) out r2 ds S t H0 W2 σ H2 { s1 with gens := g' } _ ml (Lat.refl W2 H2) aw2 S0
  exact key.imp fun e s' z => z.base (aw.strip X2) (Sleeps.below kp.sleeps)⟩
end
end DL
/-! EM: list(g). -/
namespace DL
open PySem PySem.Spec PyProof.Rows L2
theorem Ext.updFree {W W' : Wd} {H H' : Hp} {σ σ' : L2.St} {r r' : List Slot} (x : Ext W H σ r W' H' σ' r') {p : Addr} {o : HO} (hn : H p = none) : Ext W H σ r W' (upd H' p o) σ' r' :=
  ⟨x.f, x.fn, x.l, fun a u h hl ho => by rw [upd_ne (ne_of_none h hn)]; exact x.keep a u h hl ho, fun a h => by
    by_cases e : a = p
    · rw [e, upd_same]; simp
    · rw [upd_ne e]; exact x.dom a h, x.on⟩
section
variable {G : GE} {g : Nat} {X : Cx} {pins : List (Addr × Obj)} {σ : L2.St} {st : Sta} {S : Addr}
/-- the loop that fills the list -/
theorem drainG {B : Around} {res : Value} {R : Result → Shared → Prop} {All : List PyData} {Wb : Wd} {Hb : Hp} (ok : G.Ok) (FF : G.For X pins) (eK : G.K = X.K) (hA : G.A = B.in1.in1) (hd : B.depth < recursionLimit) (hz : All.length ≤ sizeLine) (hn : Hb S = none)
    (hR : ∀ s' W' H', Inv X pins σ H' s' → Rel X.K W' H' σ st → Fre X.K W' H' σ st.r S All → Ext Wb Hb σ st.r W' H' σ st.r → R (.ok (.ret res)) s') :
    ∀ (ds es : List PyData) (W : Wd) (H : Hp) (s : Shared) (gs : GenState), es ++ ds = All → Inv X pins σ H s → Rel X.K W H σ st → Fre X.K W H σ st.r S es → Slp G g ds gs W H s → Ext Wb Hb σ st.r W H σ st.r →
      codeAny (model X.prog X.w) B (.builtin "list.extend.loop" ⟨[.ref S, .ref G.a, res], []⟩) R s := by
  intro ds
  induction ds with
  | nil =>
    intro es W H s gs he I R0 Fr Sl Eb
    refine codeAny_builtin F.entry_extend_loop ?_
    rw [Around.under_plainId F.plain_extend_loop _]
    show wpAny _ B.in1 (pyNext (.ref G.a) >>= _) _ _ s
    refine wpAny_bind (wpAny_mono (gen_nextB (B := B.in1) ok FF hA hd I (by rw [eK]; exact R0) Sl) (fun rr s4 q => ?_) fun _ _ q => q.elim)
    obtain ⟨W4, H4, I4, R4, X4, _, q⟩ := q
    have q : rr = none := q
    subst q
    rw [eK] at R4
    rw [List.append_nil] at he
    subst he
    exact wpAny_pure (hR s4 W4 H4 I4 R4 (Fr.ext (st := st) R0 X4) (Eb.trans X4))
  | cons d ds ih =>
    intro es W H s gs he I R0 Fr Sl Eb
    refine codeAny_builtin F.entry_extend_loop ?_
    rw [Around.under_plainId F.plain_extend_loop _]
    show wpAny _ B.in1 (pyNext (.ref G.a) >>= _) _ _ s
    refine wpAny_bind (wpAny_mono (gen_nextB (B := B.in1) ok FF hA hd I (by rw [eK]; exact R0) Sl) (fun rr s4 q => ?_) fun _ _ q => q.elim)
    obtain ⟨W4, H4, I4, R4, X4, _, v, x, gs', rfl, rv, hxd, sg, ne, S4⟩ := q
    rw [eK] at R4 hxd
    have Fr4 := Fr.ext (st := st) R0 X4
    obtain ⟨xs, hH, hxs⟩ := Fr4.at_
    obtain ⟨z, its, n, rv0, hl, e⟩ := I4.lstM hH
    have hlen : es.length + (ds.length + 1) ≤ sizeLine := by
      have := congrArg List.length he
      rw [List.length_append, List.length_cons] at this
      omega
    have hxl := hxs.length
    have hsz : its.toArray.size < sizeLine := by rw [List.size_toArray]; omega
    have hlen' : (es ++ [d]).length ≤ sizeLine := by rw [List.length_append, List.length_singleton]; omega
    show wpAny _ B.in1 (updateSeq S (·.push v) >>= _) _ _ _
    refine wpAny_bind ?_
    refine wpAny_updateSeq e rfl (wpAny_pure ⟨plainId_quiet F.plain_extend_loop _, ?_⟩) (Nat.le_of_lt hsz) (by show (its.toArray.push v).size ≤ sizeLine + 1; rw [Array.size_push]; omega)
    have hxs2 : IsDs X.K W4 H4 (xs ++ [x]) (es ++ [d]) := hxs.append (.cons hxd .nil)
    obtain ⟨R5, F5, L5⟩ := R4.updFre Fr4 hxs2 hlen'
    have I5 : Inv X pins σ (upd H4 S (.lst (xs ++ [x]))) { s4 with heap := s4.heap.update S (Obj.mapSeq (·.push v)) } :=
      I4.lset (its' := its ++ [v]) (f := (·.push v)) (t' := s4.toks) hH e (by simp) (rv0.append (.cons rv .nil)) (by rw [List.length_append, List.length_singleton]; omega)
    obtain ⟨O, J, pO, lO, jO, kO⟩ := S4.objs ok sg
    have S5 : Slp G g ds gs' W4 (upd H4 S (.lst (xs ++ [x]))) { s4 with heap := s4.heap.update S (Obj.mapSeq (·.push v)) } := by
      refine kO _ W4 _ (fun q hq => ?_) L5 fun p hp => (jO p hp).1
      obtain ⟨h1, h2⟩ := pO q hq
      have nS : q.1 ≠ S := fun w => by rw [w, hH] at h2; cases h2
      exact ⟨(Heap.get?_update_other _ _ (Ne.symm nS)).trans h1, by rw [upd_ne nS]; exact h2⟩
    exact ih (es ++ [d]) W4 _ _ gs' (by rw [List.append_assoc]; exact he) I5 R5 F5 S5 ((Eb.trans X4).updFree hn)
/-- only new objects: it sleeps on -/
theorem Slp.grow {ds : List PyData} {gs : GenState} {W W2 : Wd} {H H2 : Hp} {s s2 : Shared} (ok : G.Ok) (h : Slp G g ds gs W H s) (hg : s2.gens = s.gens) (hk : ∀ b o, s.heap.get? b = some o → s2.heap.get? b = some o) (l : Lat W H W2 H2) (hn : ∀ b, b < s.heap.objs.size → H b = none → H2 b = none) : Slp G g ds gs W2 H2 s2 := by
  obtain ⟨ip, xo, ig, r, σ, c, tr, fs, S⟩ := h
  obtain ⟨O, h1, h2, h3⟩ := S.frm.objs ok
  have put : ∀ {O : List (Addr × Obj)}, Put O H s → Put O H2 s2 := fun {O} p q hq => ⟨hk _ _ (p q hq).1, hn _ (Heap.lt_size (p q hq).1) (p q hq).2⟩
  refine ⟨ip, xo, ig, r, σ, c, tr, fs, by rw [hg]; exact S.gen, S.goes, S.beh.later l.addO, h3 s2 H2 (put h1), fun i d e => ?_, S.no, S.len, fun p hp => ?_, S.low, S.ty, put S.xp, S.xlow, S.dj⟩
  · obtain ⟨v, e1, e2⟩ := S.reg i d e
    exact ⟨v, e1, e2.lat l⟩
  · rw [hg]; exact S.igk p hp
/-- list(g) -/
theorem call_listG {k : Nat} {W : Wd} {H : Hp} {s : Shared} {out : List PyData} {gs : GenState} {Q : Value → Shared → Prop} {E : Value → Shared → Prop} (ok : G.Ok) (FF : G.For X pins) (eK : G.K = X.K) (hr : Room (k + 3) X.A) (hA : G.A = X.A.in1.in1.in1) (hz : out.length ≤ sizeLine) (I : Inv X pins σ H s) (R : Rel X.K W H σ st) (Sl : Slp G g out gs W H s)
    (hQ : ∀ S s' W' H', H S = none → Inv X pins σ H' s' → Rel X.K W' H' σ st → Fre X.K W' H' σ st.r S out → Ext W H σ st.r W' H' σ st.r → Q (.ref S) s') :
    wpAny (model X.prog X.w) X.A (call (.type "list") [.ref G.a]) Q E s := by
  have hg := Sl.isGen
  have ha2 : G.a < s.heap.objs.size := let ⟨o, _, _, h, _⟩ := hg; Heap.lt_size h
  have hSa : s.heap.objs.size ≠ G.a := Nat.ne_of_gt ha2
  refine callType_codes (Q₁ := fun obj s₁ => obj = .ref s.heap.objs.size ∧ s₁ = { s with heap := s.heap.push { cls := .type "list", data := .seq #[] } }) F.called_list (F.typeCall_list_1 _) F.entry_list_init
    (code_list_new _ ⟨rfl, rfl⟩) fun obj s₁ h₁ => ?_
  obtain ⟨rfl, rfl⟩ := h₁
  have hS : (s.heap.push { cls := .type "list", data := .seq #[] }).get? s.heap.objs.size = some { cls := .type "list", data := .seq #[] } := Heap.get?_push_size _ rfl
  refine ⟨⟨_, hS, rfl⟩, F.args_list_init_2 _ _, ?_⟩
  show wpAny _ X.A.in1.in1 (do let old ← Builtin.List.listItems (.ref s.heap.objs.size); Builtin.List.listUpdate (.ref s.heap.objs.size) (fun _ => #[]); letGo old.toList.reverse; Builtin.List.listExtendWith (.ref s.heap.objs.size) (.ref G.a) .none) _ _ _
  refine wpAny_bind ?_
  unfold Builtin.List.listItems
  refine wpAny_bind (wpAny_seqItems hS rfl (wpAny_pure ?_))
  show wpAny _ X.A.in1.in1 (updateSeq s.heap.objs.size (fun _ => #[]) >>= fun _ => letGo (#[] : Array Value).toList.reverse >>= fun _ => Builtin.List.listExtendWith (.ref s.heap.objs.size) (.ref G.a) .none) _ _ _
  refine wpAny_bind (wpAny_updateSeq hS rfl ?_)
  have hS2 := Heap.get?_update_self (Obj.mapSeq (fun _ => (#[] : Array Value))) hS rfl
  refine wpAny_bind (wpAny_letGo ?_)
  unfold Builtin.List.listExtendWith
  have up : ∀ (h : Heap) (f : Obj → Obj), (∀ b o, s.heap.get? b = some o → h.get? b = some o) → ∀ b o, s.heap.get? b = some o → (h.update s.heap.objs.size f).get? b = some o := fun h f q b o e =>
    (Heap.get?_update_other _ _ (Ne.symm (Nat.ne_of_lt (Heap.lt_size e)))).trans (q b o e)
  have k1 : ∀ b o, s.heap.get? b = some o → (s.heap.push { cls := .type "list", data := .seq #[] }).get? b = some o := fun b o e => Heap.get?_push_of_some _ e
  have k2 := up _ (Obj.mapSeq (fun _ => (#[] : Array Value))) k1
  have gty : ∀ {h : Heap}, (∀ b o, s.heap.get? b = some o → h.get? b = some o) → h.IsGen G.a g := fun {h} q => hg.keeps q
  refine wpAny_bind (wpAny_typeOf (Heap.IsGen.typeIs (s := { s with heap := _ }) (gty k2)) ?_)
  have h1 : Builtin.List.listSameRef (.ref s.heap.objs.size) (.ref G.a) = false := by simp [Builtin.List.listSameRef, hSa]
  have h2 : (Value.type "generator" == Value.type "list") = false := by decide
  have h3 : (Value.type "generator" == Value.type "tuple") = false := by decide
  simp only [h1, h2, h3, Bool.or_false, Bool.false_eq_true, if_false]
  refine wpAny_bind (wpAny_pyIter_gen (s := { s with heap := _ }) (gty k2) ?_)
  refine wpAny_bind (wpAny_holding ?_)
  unfold Builtin.List.listLengthHint
  refine wpAny_bind (wpAny_specialOf (Heap.IsGen.typeIs (s := { s with heap := _ }) (gty k2)) F.gen_no_len ?_)
  show wpAny _ X.A.in1.in1 (specialOf (Value.ref G.a) (Str.ofString "__length_hint__") >>= _) _ _ _
  refine wpAny_bind (wpAny_specialOf (Heap.IsGen.typeIs (s := { s with heap := _ }) (gty k2)) F.gen_no_hint ?_)
  refine wpAny_pure ?_
  show wpAny _ X.A.in1.in1 (rule "list.extend.makes-room" >>= fun _ => Builtin.List.listTouch (.ref s.heap.objs.size) >>= fun _ =>
    again (.builtin "list.extend.loop" ⟨[.ref s.heap.objs.size, .ref G.a, .none], []⟩)) _ _ _
  refine wpAny_bind (wpAny_rule ?_)
  refine wpAny_bind ?_
  show wpAny _ X.A.in1.in1 (updateSeq s.heap.objs.size (·.push .none) >>= fun _ => updateSeq s.heap.objs.size (·.pop)) _ _ _
  refine wpAny_bind (wpAny_updateSeq hS2 rfl ?_)
  have hS3 := Heap.get?_update_self (Obj.mapSeq (·.push Value.none)) hS2 rfl
  refine wpAny_updateSeq (hz := by seq_fits) hS3 rfl ?_
  have hS4 := Heap.get?_update_self (Obj.mapSeq (·.pop)) hS3 rfl
  have k4 := up _ (Obj.mapSeq (·.pop)) (up _ (Obj.mapSeq (·.push Value.none)) k2)
  refine wpAny_pure ⟨plainId_quiet F.plain_extend_loop _, ?_⟩
  have hn : H s.heap.objs.size = none := I.hok.fresh (Nat.le_refl _)
  have gr : Grow W H W (upd H s.heap.objs.size (.lst [])) := Fok.new R.fok hn
  refine drainG (g := g) (B := X.A.in1) (All := out) (Wb := W) (Hb := H) ok FF eK hA (by have := hr.dp; show X.A.depth < _; omega) hz hn (fun s' W' H' q1 q2 q3 q4 => ⟨rfl, hQ _ s' W' H' hn q1 q2 q3 q4⟩) out [] W (upd H s.heap.objs.size (.lst [])) _ gs rfl
    (I.laid (t' := s.toks) k4 (Nat.le_refl _) ⟨Nat.zero_le _, [], _, .nil, hS4⟩) (gr.rel R) (R.fre hn gr upd_same .nil (Nat.zero_le _)) (Sl.grow ok (s2 := { s with heap := _ }) rfl k4 gr.lat fun b hb e => by rw [upd_ne (Nat.ne_of_lt hb)]; exact e) gr.ext
end
end DL
/-! EN: list(g) as an expression; reasoning about the mirrors. -/
namespace DL
open PySem PySem.Spec PyProof.Rows L2
def nGen (f : EL) : EL := fun st => (f st).bind fun out s => if out.length ≤ 16777216 then .ok out s else .bad
section
variable {X : Cx} {k : Nat} {iter : Expr} {f : EL} {p pos : Pos}
theorem dn_listG (hi : PGn X k iter f) (hr : Room (k + 3) X.A) (hgd : X.A.guards = some []) (hmg : X.mg "list" = none) (hg : Gl X "list" := by rfl) (he : starEach [iter] X.env = (false, eval iter X.env) :: starEach [] X.env := by rfl) :
    PE X (.Call (.Name "list" p) [iter] [] pos) (tN X.K DL.E0 (nGen f)) := by
  refine ⟨fun pins s σ H Q I ⟨W, st, R, h⟩ => ?_⟩
  refine wpAny_Call_Name_kw (ld_blt I hg hmg (by decide +kernel : bootBuiltins "list" = some (.type "list")) ?_ (by decide) (by decide))
  refine PyProof.Rows.callWith_type1 ?_ he rfl
  rw [he]
  show wpAny _ _ (spliced ((false, eval iter X.env) :: backTo pos (starEach [] X.env))) _ _ s
  refine Calls.spliced_cons (thn (hi.run pins s σ W H st _ I R h.then) fun u s1 q => ?_)
  obtain ⟨mk, L, a, cc, gi, out, st1, W2, H2, rfl, I2, R2, X2, hC, u2, hgen, hsz, hmk⟩ := q
  refine Calls.spliced_nil ?_
  obtain ⟨eA, eL, ea, eP, ew, eK, eb, eo, ok, slp⟩ := hmk X.A.in1.in1.in1 hgd hr.in1.in1.in1 I2.ok.frames
  generalize mk X.A.in1.in1.in1 = G at *
  subst ea
  by_cases hz : out.length ≤ 16777216
  · rw [if_pos hz] at hC
    refine call_listG ok ⟨eP, ew, eb, eo, by rw [eL]; exact u2⟩ eK hr eA (sz_line hz) I2 R2 (slp s1 rfl hgen) fun S s' W' H' hn I' R' F' X' => ?_
    refine ⟨.ref S, H', I', rfl, hC W' H' R' X' S F' ?_⟩
    cases q : H S with
    | none => rfl
    | some o => exact absurd hn (X2.dom S (by rw [q]; simp))
  · rw [if_neg hz] at hC; exact hC.elim
end
section
variable {st : Sta} {m : GD} {fl f : EL} {D : List PyData → Sta → Prop}
@[simp] theorem wp_nGen : (nGen f st).wp D ↔ (f st).wp fun out s => out.length ≤ 16777216 ∧ D out s := by
  unfold nGen
  rw [wp_bind]
  refine ⟨fun h => wp_mono h fun x s z => ?_, fun h => wp_mono h fun x s ⟨q, z⟩ => by rw [if_pos q]; exact z⟩
  split at z
  · exact ⟨by assumption, z⟩
  · exact z.elim
/-- a generator whose list is known -/
def OnlyG (m : GD) (ds out : List PyData) : Prop := m ds out ∧ ∀ out', m ds out' → out' = out
theorem wp_eGen : (eGen m fl st).wp D ↔ (fl st).wp fun ds s => ∃ h : ∃ out, m ds out, D h.choose s := by
  unfold eGen
  rw [wp_bind]
  refine ⟨fun h => wp_mono h fun x s z => ?_, fun h => wp_mono h fun x s ⟨q, z⟩ => by rw [dif_pos q]; exact z⟩
  by_cases q : ∃ out, m x out
  · rw [dif_pos q] at z; exact ⟨q, z⟩
  · rw [dif_neg q] at z; exact z.elim
theorem wp_gen (h : (fl st).wp fun ds s => ∃ out, OnlyG m ds out ∧ D out s) : (eGen m fl st).wp D :=
  wp_eGen.mpr (wp_mono h fun ds s ⟨out, q, z⟩ => ⟨⟨out, q.1⟩, by
    have e := q.2 _ (Exists.choose_spec (⟨out, q.1⟩ : ∃ out, m ds out))
    rw [e]; exact z⟩)
end
/-! ### one list only -/
def OneL (b : GMir) (r : List Slot) (ds : List PyData) (r1 : List Slot) : Prop := b r ds r1 ∧ ∀ d' r', b r d' r' → d' = ds ∧ r' = r1
section
variable {r r1 r2 : List Slot} {ds : List PyData}
theorem one_nx : OneL gNx r [] r := ⟨⟨rfl, rfl⟩, fun d' r' ⟨a, b⟩ => ⟨a, b⟩⟩
theorem one_pl {f : SD} (h : ∀ S, f ⟨r, S⟩ = .nx ⟨r1, S⟩) : OneL (gPl f) r [] r1 := ⟨⟨rfl, h⟩, fun d' r' ⟨a, b⟩ => ⟨a, by
  have := (h []).symm.trans (b [])
  cases this; rfl⟩⟩
theorem one_yl {f : ED} {d : PyData} (h : ∀ S, f ⟨r, S⟩ = .ok d ⟨r1, S⟩) (no : NoOwn r1) : OneL (gYl f) r [d] r1 := ⟨⟨d, rfl, no, h⟩, fun d' r' ⟨x, a, _, b⟩ => by
  have := (h []).symm.trans (b [])
  cases this
  exact ⟨a, rfl⟩⟩
theorem one_seq {a b : GMir} {d1 d2 : List PyData} (ha : OneL a r d1 r2) (hb : OneL b r2 d2 r1) : OneL (gSeq a b) r (d1 ++ d2) r1 := ⟨⟨d1, d2, r2, rfl, ha.1, hb.1⟩, fun d' r' ⟨x, y, z, e, h1, h2⟩ => by
  obtain ⟨rfl, rfl⟩ := ha.2 _ _ h1
  obtain ⟨rfl, rfl⟩ := hb.2 _ _ h2
  exact ⟨e, rfl⟩⟩
theorem one_if {c : ET} {a b : GMir} {k : Bool} (hc : ∀ S, c ⟨r, S⟩ = .ok k ⟨r2, S⟩) (h : OneL (if k = true then a else b) r2 ds r1) : OneL (gIf c a b) r ds r1 := by
  refine ⟨⟨k, r2, hc, ?_⟩, fun d' r' ⟨k', r3, h1, h2⟩ => ?_⟩
  · cases k <;> exact h.1
  · have := (hc []).symm.trans (h1 [])
    cases this
    cases k <;> exact h.2 _ _ h2
/-- over a loop's turns -/
theorem one_loop {g : TGT} {b : GMir} {xs : List PyData} (P : Nat → List Slot → Prop) (out : Nat → List PyData) (h : ∀ i x r, xs[i]? = some x → P i r → ∃ r2 r3, (∀ S, g x ⟨r, S⟩ = some ⟨r2, S⟩) ∧ OneL b r2 (out i) r3 ∧ P (i + 1) r3) :
    ∀ (n i : Nat) (r : List Slot), n + i = xs.length → P i r → ∃ r1, OneL (gLoop g b (xs.drop i)) r (((List.range n).map fun j => out (i + j)).flatten) r1 ∧ P xs.length r1
  | 0, i, r, e, p => by
    have : i = xs.length := by omega
    subst this
    rw [List.drop_length]
    exact ⟨r, ⟨⟨rfl, rfl⟩, fun d' r' ⟨a, b⟩ => ⟨a, b⟩⟩, p⟩
  | n + 1, i, r, e, p => by
    have hi : i < xs.length := by omega
    have hx : xs[i]? = some xs[i] := List.getElem?_eq_getElem hi
    obtain ⟨r2, r3, hg, hb, p3⟩ := h i _ r hx p
    obtain ⟨r1, hl, pl⟩ := one_loop P out h n (i + 1) r3 (by omega) p3
    refine ⟨r1, ?_, pl⟩
    rw [List.drop_eq_getElem_cons hi]
    have eo : ((List.range (n + 1)).map fun j => out (i + j)).flatten = out i ++ ((List.range n).map fun j => out (i + 1 + j)).flatten := by
      rw [List.range_succ_eq_map, List.map_cons, List.flatten_cons, List.map_map]
      congr 3
      funext j
      show out (i + (j + 1)) = out (i + 1 + j)
      congr 1
      omega
    rw [eo]
    refine ⟨⟨out i, _, r2, r3, rfl, hg, hb.1, hl.1⟩, fun d' r' ⟨d1, d2, r4, r5, e1, g1, b1, l1⟩ => ?_⟩
    have := (hg []).symm.trans (g1 [])
    cases this
    obtain ⟨rfl, rfl⟩ := hb.2 _ _ b1
    obtain ⟨rfl, rfl⟩ := hl.2 _ _ l1
    exact ⟨e1, rfl⟩
theorem one_for {i : EL} {g : TGT} {b : GMir} {xs : List PyData} (hi : ∀ S, i ⟨r, S⟩ = .ok xs ⟨r2, S⟩) (h : OneL (gLoop g b xs) r2 ds r1) : OneL (gFor i g b) r ds r1 := by
  refine ⟨⟨xs, r2, hi, h.1⟩, fun d' r' ⟨xs', r3, h1, h2⟩ => ?_⟩
  have := (hi []).symm.trans (h1 [])
  cases this
  exact h.2 _ _ h2
theorem only_gen {n N : Nat} {b : GMir} {args : List PyData} (hl : args.length = n) (h : ∃ r1, OneL b (args.map Slot.val ++ List.replicate (N - n) .non) ds r1) : OnlyG (mkGen n N b) args ds := by
  obtain ⟨r1, h⟩ := h
  exact ⟨⟨hl, r1, h.1⟩, fun out' ⟨_, r', q⟩ => (h.2 _ _ q).1⟩
theorem only_pack {n : Nat} {m : GD} {args : List PyData} (h1 : n ≤ args.length) (h2 : args.length ≤ 16777216) (h : OnlyG m (packD n args) ds) : OnlyG (packG n m) args ds :=
  ⟨⟨h1, h2, h.1⟩, fun out' ⟨_, _, q⟩ => h.2 _ q⟩
end
end DL
/-! EO: comprehensions of two fors that change nothing. -/
namespace DL
open PySem PySem.Spec PyProof.Rows L2
theorem wp_nox {α : Type} {x : Rs α} {C : α → Sta → Prop} (h : x.wp C) : x.nox.wp C := by cases x <;> first | exact h | exact h.elim
theorem lcD_pure {g : TGT} {tt : ET} {te : ED} {vs : List Nat} (p : PyData → Bool) (h : PyData → PyData) {s0 : Sta} : ∀ (ds acc : List PyData), (∀ d ∈ ds, ∃ s1, g d s0 = some s1 ∧ ((tt s1).wp fun k s2 => k = p d ∧ s2 = s1) ∧ (p d = true → (te s1).wp fun y s2 => y = h d ∧ s2 = s1) ∧ wipeS vs s1 = s0) →
    (lcD g tt te vs ds acc s0).wp fun a s' => a = acc ++ (ds.filter p).map h ∧ s' = s0
  | [], acc, _ => ⟨by simp, rfl⟩
  | d :: ds, acc, hh => by
    obtain ⟨s1, eg, ht, hy, hw⟩ := hh d List.mem_cons_self
    have ih := fun acc => lcD_pure p h (g := g) (tt := tt) (te := te) (vs := vs) (s0 := s0) ds acc fun e he => hh e (List.mem_cons_of_mem _ he)
    unfold lcD
    rw [eg]
    show ((tt s1).nox.bind _).wp _
    rw [wp_bind]
    refine wp_nox (wp_mono ht fun k s2 ⟨e1, e2⟩ => ?_)
    subst e1 e2
    cases hp : p d with
    | true =>
      rw [if_pos rfl, wp_bind]
      refine wp_nox (wp_mono (hy hp) fun y s3 ⟨e1, e2⟩ => ?_)
      subst e1 e2
      rw [hw]
      refine wp_mono (ih _) fun a s' ⟨e1, e2⟩ => ⟨?_, e2⟩
      rw [e1]
      simp [hp]
    | false =>
      rw [if_neg Bool.false_ne_true, hw]
      refine wp_mono (ih _) fun a s' ⟨e1, e2⟩ => ⟨?_, e2⟩
      rw [e1]
      simp [hp]
theorem lcD2_pure {g g1 : TGT} {tt tt1 : ET} {f1 : EL} {te : ED} {vs vs1 : List Nat} (p : PyData → Bool) (k : PyData → List PyData) (p1 : PyData → PyData → Bool) (h1 : PyData → PyData → PyData) {s0 : Sta} : ∀ (ds acc : List PyData),
    (∀ d ∈ ds, ∃ s1, g d s0 = some s1 ∧ ((tt s1).wp fun b s2 => b = p d ∧ s2 = s1) ∧ wipeS vs s1 = s0 ∧ (p d = true → (f1 s1).wp fun es s3 => es = k d ∧ s3 = s1 ∧ wipeS vs (wipeS vs1 s1) = s0 ∧
      ∀ e ∈ es, ∃ s4, g1 e (wipeS vs1 s1) = some s4 ∧ ((tt1 s4).wp fun b s5 => b = p1 d e ∧ s5 = s4) ∧ (p1 d e = true → (te s4).wp fun y s5 => y = h1 d e ∧ s5 = s4) ∧ wipeS vs1 s4 = wipeS vs1 s1)) →
    (lcD2 g tt f1 g1 tt1 te vs vs1 ds acc s0).wp fun a s' => a = acc ++ (ds.filter p).flatMap (fun d => ((k d).filter (p1 d)).map (h1 d)) ∧ s' = s0
  | [], acc, _ => ⟨by simp, rfl⟩
  | d :: ds, acc, hh => by
    obtain ⟨s1, eg, ht, hw, hy⟩ := hh d List.mem_cons_self
    have ih := fun acc => lcD2_pure p k p1 h1 (g := g) (g1 := g1) (tt := tt) (tt1 := tt1) (f1 := f1) (te := te) (vs := vs) (vs1 := vs1) (s0 := s0) ds acc fun e he => hh e (List.mem_cons_of_mem _ he)
    unfold lcD2
    rw [eg]
    show ((tt s1).nox.bind _).wp _
    rw [wp_bind]
    refine wp_nox (wp_mono ht fun b s2 ⟨e1, e2⟩ => ?_)
    subst e1 e2
    cases hp : p d with
    | true =>
      rw [if_pos rfl, wp_bind]
      refine wp_nox (wp_mono (hy hp) fun es s3 ⟨e1, e2, e3, hin⟩ => ?_)
      subst e1 e2
      rw [wp_bind]
      refine wp_nox (wp_mono (lcD_pure (p1 d) (h1 d) (k d) acc hin) fun a s4 ⟨e4, e5⟩ => ?_)
      subst e4 e5
      rw [e3]
      refine wp_mono (ih _) fun a s' ⟨e1, e2⟩ => ⟨?_, e2⟩
      rw [e1]
      simp [hp]
    | false =>
      rw [if_neg Bool.false_ne_true, hw]
      refine wp_mono (ih _) fun a s' ⟨e1, e2⟩ => ⟨?_, e2⟩
      rw [e1]
      simp [hp]
/-- a comprehension of two fors that changes nothing -/
theorem wp_lc2P {st : Sta} {D : List PyData → Sta → Prop} {f f1 : EL} {g g1 : TGT} {tt tt1 : ET} {te : ED} {vs vs1 : List Nat} (p : PyData → Bool) (k : PyData → List PyData) (p1 : PyData → PyData → Bool) (h1 : PyData → PyData → PyData)
    (hh : (f st).wp fun ds s => (∀ d ∈ ds, ∃ s1, g d (wipeS vs s) = some s1 ∧ ((tt s1).wp fun b s2 => b = p d ∧ s2 = s1) ∧ wipeS vs s1 = wipeS vs s ∧ (p d = true → (f1 s1).wp fun es s3 => es = k d ∧ s3 = s1 ∧ wipeS vs (wipeS vs1 s1) = wipeS vs s ∧
      ∀ e ∈ es, ∃ s4, g1 e (wipeS vs1 s1) = some s4 ∧ ((tt1 s4).wp fun b s5 => b = p1 d e ∧ s5 = s4) ∧ (p1 d e = true → (te s4).wp fun y s5 => y = h1 d e ∧ s5 = s4) ∧ wipeS vs1 s4 = wipeS vs1 s1)) ∧
      ((ds.filter p).flatMap fun d => ((k d).filter (p1 d)).map (h1 d)).length ≤ 16777216 ∧ D ((ds.filter p).flatMap fun d => ((k d).filter (p1 d)).map (h1 d)) s) : (nLc2 f g tt f1 g1 tt1 te vs vs1 st).wp D := by
  unfold nLc2
  rw [wp_bind]
  refine wp_mono hh fun ds s ⟨all, hl, fin⟩ => ?_
  rw [wp_bind]
  refine wp_nox (wp_mono (lcD2_pure p k p1 h1 ds [] all) fun a s' ⟨e1, e2⟩ => ?_)
  subst e1 e2
  rw [List.nil_append, if_pos hl]
  show D _ { wipeS vs s with r := backR s.r (wipeR s.r vs) vs }
  rw [back_wipe]
  exact fin
end DL
/-! EP: is, is not of bools. -/
namespace DL
open PySem PySem.Spec PyProof.Rows L2
def opIsB : PyData → PyData → Option PyData
  | .bool a, .bool b => some (.bool (decide (a = b)))
  | _, _ => none
def opNotB : PyData → PyData → Option PyData
  | .bool a, .bool b => some (.bool (!decide (a = b)))
  | _, _ => none
section
variable {X : Cx}
theorem dop_isB : OpR X (compareOp .Is) (rD2 X.K opIsB) := by
  refine OpR.imp op_isBl fun x y H Q ⟨W, dx, dy, d, hx, hy, e, fok, q⟩ => ?_
  unfold opIsB at e
  split at e
  · cases hx; cases hy; cases e
    exact ⟨_, _, rfl, rfl, q _ W H fok.refl (.bl _)⟩
  · cases e
theorem dop_notB : OpR X (compareOp .IsNot) (rD2 X.K opNotB) := by
  refine OpR.imp op_notBl fun x y H Q ⟨W, dx, dy, d, hx, hy, e, fok, q⟩ => ?_
  unfold opNotB at e
  split at e
  · cases hx; cases hy; cases e
    exact ⟨_, _, rfl, rfl, q _ W H fok.refl (.bl _)⟩
  · cases e
end
@[simp] theorem opIsB_bl {a b : Bool} : opIsB (.bool a) (.bool b) = some (.bool (decide (a = b))) := rfl
@[simp] theorem opNotB_bl {a b : Bool} : opNotB (.bool a) (.bool b) = some (.bool (!decide (a = b))) := rfl
end DL
/-! EQ: t.index(x) of any data. -/
namespace DL
open PySem PySem.Spec PyProof.Rows L2
def rIndexTD (K : PySem.W.Frag) : V → List V → Hp → VK → Prop := fun x xs H Q => ∃ (a : Addr) (y : V) (d : PyData) (ds : List PyData) (j : Nat) (z : PyData), x = V.ref a ∧ xs = [y] ∧ Dp K H (V.ref a) (.tuple ds) ∧ Dp K H y d ∧
  SeqAt.shaped (.tuple ds) = true ∧ SeqAt.shaped d = true ∧ ds[j]? = some z ∧ PyData.eqv z d = true ∧ (∀ (m : Nat) (z' : PyData), m < j → ds[m]? = some z' → PyData.eqv z' d = false) ∧ Q (.int (j : Nat)) H
section
variable {X : Cx} {E : EX} {pos apos p : Pos} {e o : Expr} {fa fb : ED}
theorem mt_indexTD (hu : X.A.units + 65 < cLine) : MtR X "tuple.index" (rIndexTD X.K) := by
  intro pins s σ H x xs v us Q I rx rxs h
  obtain ⟨a, y, d, ds, j, z, rfl, rfl, hl, hy, sl, sd, hz, hzj, hno, q⟩ := h
  cases rx
  cases rxs with
  | cons ry rt =>
    rename_i uy ut
    cases rt
    obtain ⟨bs, r1⟩ := Dp.reads I d y uy hy ry
    have hxs : PyData.canLayAll0 ds = true := SeqAt.canLay_of_shaped sl
    have hroom : X.A.units + 1 + min (PyData.depthAll ds) d.depth < cLine := room_in_shaped sd hu
    cases hl with
    | tup hs ha =>
      obtain ⟨its, rv, ⟨⟨cls, dd, data, sls⟩, ho, hc, n, hdt⟩, hlen⟩ := I.tuple hs
      simp only at hc hdt
      subst hc hdt
      obtain ⟨as, h4⟩ := Dp.readsAll I ds _ its ha rv
      have hn : its.length = ds.length := SeqAt.ReadsAll.length ds its as h4
      have hmap : its.map (SeqAt.readOf s.heap) = ds := SeqAt.readsAll_map ds its as hxs h4
      obtain ⟨hjd, _⟩ := List.getElem?_eq_some_iff.mp hz
      have hjl : j < its.length := by omega
      have hj : j < its.toArray.size := by simpa using hjl
      have at_ : ∀ (m : Nat) (hm : m < its.toArray.size) (z' : PyData), ds[m]? = some z' → SeqAt.readOf s.heap its.toArray[m] = z' := by
        intro m hm z' hz'
        have hml : m < its.length := by simpa using hm
        rw [← hmap, List.getElem?_map, List.getElem?_eq_getElem hml] at hz'
        have e1 : SeqAt.readOf s.heap its[m] = z' := Option.some.inj (show some (SeqAt.readOf s.heap its[m]) = some z' from hz')
        simpa using e1
      refine call_meets PySem.F.slot_tuple_index ⟨_, ho, rfl⟩ PySem.F.entry_tuple_index (PySem.F.args_tuple_index_2 _ _)
        (TI.tuple_indexAt a its.toArray n dd sls uy (fun u => PyData.eqv (SeqAt.readOf s.heap u) d) j hj ?_ ?_) ⟨ho, SeqAt.items_eqAt (vs := its.toArray) (show ReadsAll s.heap its.toArray.toList ds as from h4) r1 hxs (SeqAt.canLay_of_shaped sd) hroom, ?_⟩
      · show PyData.eqv (SeqAt.readOf s.heap its.toArray[j]) d = true
        rw [at_ j hj z hz]
        exact hzj
      · intro m hm hmj
        have hmd : m < ds.length := by omega
        have hz' : ds[m]? = some ds[m] := List.getElem?_eq_getElem hmd
        show PyData.eqv (SeqAt.readOf s.heap its.toArray[m]) d = false
        rw [at_ m hm _ hz']
        exact hno m _ hmj hz'
      · exact ⟨.int (j : Nat), H, I.tok _, ⟨_, rfl⟩, q⟩
def ixDeepT (y : PyData) (ys : List PyData) : Option PyData := if shp (.tuple ys) && shp y then (ixOf y ys 0).map fun j => .int (j : Nat) else none
def eIdxTD (fo fa : ED) : ED := fun st => (fo st).bind fun x s1 => match x with
  | .tuple ys => (fa s1).bind fun y s2 => match ixDeepT y ys with
    | some d => .ok d s2
    | none => .bad
  | _ => .bad
theorem de_idxTD {apos : Pos} (hu : X.A.units + 65 < cLine) (ho : PE X o (tD X.K E fa)) (ha : PE X e (tD X.K E fb)) (hbase : attributeBase o "index" X.env (eval o X.env) = eval o X.env := by rfl)
    (hfew : ((backTo pos (starEach [e] X.env)).all (fun x => !x.1) && (backToKw pos (keywordEach [] X.env)).all (fun x => x.1.isSome) && decide ([e].length + ([] : List Keyword).length + (if ([] : List Keyword).isEmpty then 0 else 1) < 30)) = true := by rfl)
    (hline : (apos.endLine == pos.line) = true := by rfl) (hs : starEach [e] X.env = (false, eval e X.env) :: starEach [] X.env := by rfl) : PE X (.Call (.Attribute o "index" apos) [e] [] pos) (tD X.K E (eIdxTD fa fb)) := by
  refine pe_imp (pe_bmT PySem.F.plainAttrs_tuple PySem.F.slot_tuple_index PySem.F.type_tuple_index (mt_indexTD hu) ho (pa_cons ha pa_nil hs) hbase hfew hline hs) fun σ H Q h => ?_
  obtain ⟨W, st, R, h⟩ := h
  refine tD_of R (h.then.imp fun x s1 W1 H1 _ R1 X1 h1 v hv => ?_)
  cases x with
  | tuple ys =>
    cases hv with
    | @tup p xs _ f z hxs =>
      refine ⟨⟨p, xs, rfl, f⟩, tD_of R1 (h1.then.imp fun y s2 W2 H2 _ R2 X2 h2 u hu => ?_)⟩
      cases ex : ixDeepT y ys with
      | none => rw [ex] at h2; exact h2.elim
      | some d =>
        rw [ex] at h2
        unfold ixDeepT at ex
        split at ex
        · rename_i hc
          rw [Bool.and_eq_true] at hc
          cases ej : ixOf y ys 0 with
          | none => rw [ej] at ex; cases ex
          | some j =>
            rw [ej] at ex
            cases ex
            obtain ⟨k, w, e1, e2, e3, e4⟩ := ixOf_some ej
            have ek : j = k := by omega
            subst ek
            exact ⟨_, u, y, ys, j, w, rfl, rfl, IsD.dp _ (shp_lay hc.1) (.tup (f.lat (R1.lat X2)) z (hxs.lat (R1.lat X2))), IsD.dp _ (shp_lay hc.2) hu, hc.1, hc.2, e2, e3, fun m z' hm hz => e4 m z' hm hz, h2 W2 H2 R2 .refl _ (.int _)⟩
        · cases ex
  | _ => exact h1.elim
@[simp] theorem wp_idxTD {C : PyData → Sta → Prop} {st : Sta} : (eIdxTD fa fb st).wp C ↔ (fa st).wp fun x s => ∃ ys, x = .tuple ys ∧ (fb s).wp fun y s' => ∃ d, ixDeepT y ys = some d ∧ C d s' := by
  unfold eIdxTD
  rw [wp_bind]
  refine ⟨fun h => wp_mono h fun x s z => ?_, fun h => wp_mono h fun x s ⟨ys, e, z⟩ => ?_⟩
  · cases x with
    | tuple ys =>
      refine ⟨ys, rfl, wp_mono (wp_bind.mp z) fun y s' z => ?_⟩
      cases e : ixDeepT y ys with
      | none => rw [e] at z; exact z.elim
      | some d => rw [e] at z; exact ⟨_, rfl, z⟩
    | _ => exact z.elim
  · subst e
    exact wp_bind.mpr (wp_mono z fun y s' ⟨d, e, z⟩ => by rw [e]; exact z)
end
end DL
/-! ER: defs with one keyword-only parameter, a number by default. -/
namespace DL
open PySem PySem.Spec PyProof.Rows L2
structure LkK (P : Program) (w : World) (K : PySem.W.Frag) (mg : Str → Option Value) (base : Heap) (k : Nat) (x : Str) (n : Nat) (kw : Str) (dv : Int) (m : FD) : Prop where
  ex : ∃ (f : Addr) (fd : FuncData) (ps : List Str), FnG P w K mg base k f fd ps (spD K (n + 1) m) ∧ mg x = some (.ref f) ∧ PySem.W.keepIn K (.ref f) = true ∧ (∃ u, RelV (.int dv) u ∧ Binds K fd ps [u]) ∧ KBn K fd ps n [kw] (fun us ws => us ++ ws) (fun vs zs => vs ++ zs)
/-- a call whose last argument is fv's -/
def eCallA (n : Nat) (m : FD) (fl : EL) (fv : ED) : ED := fun st => (fl st).bind fun ds s => (fv s).bind fun v s' => if ds.length = n then (match m (ds ++ [v]) s'.s with
  | .ok d S' => .ok d { s' with s := S' }
  | _ => .bad) else .bad
section
variable {X : Cx} {E : EX} {pos p : Pos} {e ev : Expr} {es : List Expr} {fl : EL} {fv : ED} {x kw : Str} {k n : Nat} {m : FD} {dv : Int}
theorem callA_read {K : PySem.W.Frag} {σ : L2.St} {H : Hp} {Q : VK} (h : tD K E (eCallA n m fl fv) σ H Q) : tL K E fl σ H fun vs H1 => tD K E fv σ H1 fun v H2 => vs.length = n ∧ spD K (n + 1) m (vs ++ [v]) H2 Q L2.E0 := by
  obtain ⟨W, st, R, h⟩ := h
  refine tL_of R (h.then.imp fun ds s1 W1 H1 _ R1 X1 h1 vs hvs => tD_of R1 (h1.then.imp fun v s2 W2 H2 _ R2 X2 h2 u hu => ?_))
  by_cases hl : ds.length = n
  · rw [if_pos hl] at h2
    have hvl : vs.length = n := by rw [hvs.length]; exact hl
    refine ⟨hvl, by rw [List.length_append, hvl]; rfl, W2, s2.s, ds ++ [v], R2.bare, (hvs.lat (R1.lat X2)).append (.cons hu .nil), ?_⟩
    cases em : m (ds ++ [v]) s2.s with
    | bad => rw [em] at h2; exact h2.elim
    | ex c S' => rw [em] at h2; exact h2.elim
    | ok d S' =>
      rw [em] at h2
      intro v' W' H' R' X' hv'
      obtain ⟨R3, X3⟩ := R2.behind R' X'
      exact h2 W' H' R3 X3 v' hv'
  · rw [if_neg hl] at h2; exact h2.elim
theorem FnG.calledD {f : Addr} {fd : FuncData} {ps : List Str} {sp : Sp} {ex : XK} {pins : List (Addr × Obj)} {σ : L2.St} {H : Hp} {s : Shared} {Q : VK} {us : List Value} {vs : List V} {y : V} {u : Value} (F : FnG X.prog X.w X.K X.mg X.base k f fd ps sp) (hgd : X.A.guards = some []) (hr : Room k X.A) (hb : Binds X.K fd ps [u]) (ru : RelV y u)
    (hx : Passes (L2.CX X.prog X.w) X ex) (I : Inv X pins σ H s) (r : Vals vs us) (h : sp (vs ++ [y]) H Q ex) : wpAny (model X.prog X.w) X.A (call (.ref f) us) (EP X pins σ Q) X.xe s := by
  have r2 : Vals (vs ++ [y]) (us ++ [u]) := r.append (.cons ru .nil)
  have nu : (us ++ [u]).length = ps.length := by rw [← r2.length]; exact F.arity h
  refine wpAny_call (codeAny_mono (F.go hgd hr I.env0 (hb s us I.kIn nu) r2 h) fun res s' z => ?_)
  match res, z with
  | .ok (.ret u), z => exact I.after z
  | .error e, z => exact hx pins σ H s e s' I z
theorem FnG.calledK {f : Addr} {fd : FuncData} {ps ks : List Str} {sp : Sp} {ex : XK} {pins : List (Addr × Obj)} {σ : L2.St} {H : Hp} {s : Shared} {Q : VK} {us ws : List Value} {vs zs : List V} (F : FnG X.prog X.w X.K X.mg X.base k f fd ps sp) (hgd : X.A.guards = some []) (hr : Room k X.A) (hb : KBn X.K fd ps n ks (fun us ws => us ++ ws) (fun vs zs => vs ++ zs))
    (hx : Passes (L2.CX X.prog X.w) X ex) (I : Inv X pins σ H s) (r : Vals vs us) (rz : Vals zs ws) (l1 : vs.length = n) (l2 : zs.length = ks.length) (h : sp (vs ++ zs) H Q ex) : wpAny (model X.prog X.w) X.A (call (.ref f) us (ks.zip ws)) (EP X pins σ Q) X.xe s := by
  refine wpAny_call (codeAny_mono (F.go (given := ⟨us, ks.zip ws⟩) hgd hr I.env0 (hb.to s us ws I.kIn (r.length.symm.trans l1) (rz.length.symm.trans l2)) (r.append rz) h) fun res s' z => ?_)
  match res, z with
  | .ok (.ret u), z => exact I.after z
  | .error e, z => exact hx pins σ H s e s' I z
/-- f(e, ..), the keyword-only one by default -/
theorem de_callD (L : LkK X.prog X.w X.K X.mg X.base k x n kw dv m) (hr : Room k X.A) (hgd : X.A.guards = some []) (ha : PA X (e :: es) (tL X.K E fl)) (hg : Gl X x := by rfl) (hdb : (x == ("__debug__" : Str)) = false := by decide)
    (he : starEach (e :: es) X.env = (false, eval e X.env) :: starEach es X.env := by rfl) (hpl : (backTo pos (starEach es X.env)).any (·.1) = false := by rfl) : PE X (.Call (.Name x p) (e :: es) [] pos) (tD X.K E (eCallA n m fl (eC (.int dv)))) := by
  obtain ⟨f, fd, ps, F, hm, hk, ⟨u, ru, hb⟩, _⟩ := L.ex
  constructor
  intro pins s σ H Q I h
  refine wpAny_Call_Name_kw (ld_glob I hg hm (PySem.W.callWith_K (h₀ := X.base) I.ok.mod.kin hk (thn (ha.run pos pins s σ H _ I (callA_read h)) fun us s1 z => ?_) he hpl) hdb)
  obtain ⟨vs, H1, I1, r, q⟩ := z
  obtain ⟨W, st, R, q⟩ := q
  obtain ⟨_, q⟩ := q W H1 R .refl (.int dv) (.int dv)
  exact ⟨I1.kIn, F.calledD hgd hr hb ru passL I1 r q⟩
/-- f(e, .., k = v) -/
theorem de_callKw {kpos : Pos} (L : LkK X.prog X.w X.K X.mg X.base k x n kw dv m) (hr : Room k X.A) (hgd : X.A.guards = some []) (ha : PA X (e :: es) (tL X.K E fl)) (hv : PE X ev (tD X.K E fv)) (hg : Gl X x := by rfl)
    (hall : (backToKw pos (keywordEach [⟨some kw, ev, kpos⟩] X.env)).all (·.1.isSome) = true := by rfl) (hks : (backToKw pos (keywordEach [⟨some kw, ev, kpos⟩] X.env)).filterMap (·.1) = [kw] := by rfl)
    (hdb : (x == ("__debug__" : Str)) = false := by decide) (he : starEach (e :: es) X.env = (false, eval e X.env) :: starEach es X.env := by rfl)
    (hpl : ((backTo pos (starEach (e :: es) X.env)).any (·.1) || (backToKw pos (keywordEach [⟨some kw, ev, kpos⟩] X.env)).any (·.1.isNone)) = false := by rfl) :
    PE X (.Call (.Name x p) (e :: es) [⟨some kw, ev, kpos⟩] pos) (tD X.K E (eCallA n m fl fv)) := by
  obtain ⟨f, fd, ps, F, hm, hk, _, hb⟩ := L.ex
  refine ⟨fun pins s σ H Q I h => ?_⟩
  refine wpAny_Call_Name_kw (ld_glob I hg hm ?_ hdb)
  refine PySem.W.callWith_KW (h₀ := X.base) I.ok.mod.kin hk hall (thn (ha.run pos pins s σ H _ I (callA_read h)) fun us s1 ⟨vs, H1, I1, r, q⟩ => ?_) hpl he
  refine thn ((pk_cons (nm := some kw) (kpos := kpos) hv pk_nil).run pos pins s1 σ H1 (fun zs H2 => ∃ v, zs = [v] ∧ vs.length = n ∧ spD X.K (n + 1) m (vs ++ [v]) H2 Q L2.E0) I1 ?_) fun ws s2 ⟨zs, H2, I2, rz, v, ez, l1, q2⟩ => ⟨I2.kIn, ?_⟩
  · obtain ⟨W, st, R, q⟩ := q
    exact ⟨W, st, R, q.imp fun d s2 W2 H2 _ R2 X2 z v hv => ⟨v, rfl, z v hv⟩⟩
  · rw [hks]
    subst ez
    exact F.calledK hgd hr hb passL I2 r rz l1 rfl q2
end
section
variable {α : Type} {st : Sta} {fl : EL} {fv : ED} {n : Nat} {m : FD} {C : PyData → Sta → Prop}
@[simp] theorem wp_callA : (eCallA n m fl fv st).wp C ↔ (fl st).wp fun ds s => (fv s).wp fun v s' => ds.length = n ∧ (m (ds ++ [v]) s'.s).wp fun d S => C d { s' with s := S } := by
  unfold eCallA
  rw [wp_bind]
  refine ⟨fun h => wp_mono h fun x s z => wp_mono (wp_bind.mp z) fun y s' z => ?_, fun h => wp_mono h fun x s z => wp_bind.mpr (wp_mono z fun y s' z => ?_)⟩
  · by_cases hl : x.length = n
    · rw [if_pos hl] at z
      refine ⟨hl, ?_⟩
      cases e : m (x ++ [y]) s'.s <;> rw [e] at z <;> exact z
    · rw [if_neg hl] at z; exact z.elim
  · rw [if_pos z.1]
    have z2 := z.2
    cases e : m (x ++ [y]) s'.s <;> rw [e] at z2 <;> exact z2
end
theorem lkk_fn {P : Program} {w : World} {K : PySem.W.Frag} {mg : Str → Option Value} {base : Heap} {k n : Nat} {x qual kw : Str} {dv : Int} {st : Stmt} {f : Addr} {fd : FuncData} {N ps : List Str} {sb : SD} (F : Fun K x qual st f fd) (FD : FunD K x qual (defArgs st) (defBody st) (defScope st) [] [(kw, .int dv)] f fd) (hm : mg x = some (.ref f)) (S : FnScope N ps (defScope st)) (hn : ps.length = n + 1)
    (h0 : ∀ (D : Addr) (doc pm : Value) (an : Option Addr) (cdv ct : Value) (us ks : List Value), us.length = n → ks.length = 1 → KwChain D ([kw].zip ks) (bindArgs (PySem.W.fnOf x qual (defArgs st) (defBody st) (defScope st) .none (.ref D) doc pm an cdv ct) ⟨us, []⟩) (ps.zip (us ++ ks)))
    (h1 : ∀ (D : Addr) (doc pm : Value) (an : Option Addr) (cdv ct : Value) (us ws : List Value), us.length = n → ws.length = 1 → bindArgs (PySem.W.fnOf x qual (defArgs st) (defBody st) (defScope st) .none (.ref D) doc pm an cdv ct) ⟨us, [kw].zip ws⟩ = pure (ps.zip (us ++ ws)))
    (body : ∀ (cdv : Value) (A : Around) (outer : List Env) (s : Shared) (H : Hp) (E : XK), A.guards = some [] → Room k (A.deeper (envOfC qual (defScope st) s.heap.objs.size f cdv)) → PSs (cxOf (L2.CX P w) P w K mg base N qual (defScope st) f cdv A outer s H E).nox (defBody st) (tS K DL.E0 sb)) :
    LkK P w K mg base (k + 1) x n kw dv (mkFn (n + 1) N.length sb) := by
  obtain ⟨ds, r, hb⟩ := FD.binds0 (ps := ps) n (by simp) (by rw [hn]; rfl) h0
  obtain ⟨mv, hk⟩ := FD.kbinds0 (ps := ps) n [kw] [] (fun us _ ws => us ++ ws) (by simp) (fun q hq => by cases hq) (fun r1 _ r3 => r1.append r3) (fun D doc pm an cdv ct us mv ws l1 l2 l3 => by
    show KwChain D ([].zip mv) _ _
    exact h1 D doc pm an cdv ct us ws l1 l3)
  have r : Vals [V.int dv] ds := r
  obtain ⟨u, rfl, ru⟩ := vals1 r
  exact ⟨f, fd, ps, fg_fn F S hn body, hm, F.kp, ⟨u, ru, hb⟩, hk⟩
/-- what stands in the module -/
theorem fund_mk {K : PySem.W.Frag} {x qual kw : Str} {dv : Int} {st : Stmt} {f D : Addr} {oc : Value} {od an : Option Addr} {osl : Array (Option Value)} {doc pm cdv ct : Value} {t : Tok} (l : K.lookup f = some ⟨oc, od, .func (PySem.W.fnOf x qual (defArgs st) (defBody st) (defScope st) .none (.ref D) doc pm an cdv ct), osl⟩)
    (c : PySem.W.codeIn K cdv qual = true) (k : PySem.W.keepIn K (.ref f) = true) (d : PySem.W.nsIn K D kw = some (some (.int dv t))) : FunD K x qual (defArgs st) (defBody st) (defScope st) [] [(kw, .int dv)] f (PySem.W.fnOf x qual (defArgs st) (defBody st) (defScope st) .none (.ref D) doc pm an cdv ct) :=
  ⟨⟨oc, od, .none, .ref D, doc, pm, an, cdv, ct, osl, rfl, l, c, .inl ⟨rfl, rfl⟩, .inr ⟨D, rfl, fun q hq => by rw [List.mem_singleton.mp hq]; exact ⟨_, d, ⟨_, rfl⟩⟩⟩⟩, k⟩
end DL
/-! ET: next(g) for any consumer. -/
namespace DL
open PySem PySem.Spec PyProof.Rows L2
section
variable {G : GE} {g : Nat} {ds : List PyData} {gs : GenState} {W W' : Wd} {H H' : Hp} {s s' : Shared}
/-- a consumer of this generator: what the generator finds, and what the consumer has behind it -/
structure Con (G : GE) (P : Program) (w : World) (H : Hp) (s : Shared) (Post : Hp → Shared → Prop) : Prop where
  P : G.P = P
  w : G.w = w
  bs : ∀ b o, G.base.get? b = some o → s.heap.get? b = some o ∧ H b = none
  low : ∀ b ∈ frs G.outer, b < G.L
  stk : s.heap.FunFrames G.base G.outer
  stf : ∀ b ∈ frs G.outer, H b = none
  hok : HOk G.P G.w H s.heap
  bare : AllBare s.gens
  nolim : s.heap.NoLimit
  sleep : ∀ {ip : List (Addr × Obj)} {σg : L2.St} {H' : Hp} {s' : Shared} {g : Array GenState}, Inv (G.cx { s with heap := trunc G.L s.heap } H) ip σg H' s' → (∀ a, H a ≠ none → H' a ≠ none) → AllBare g → Post H' { s' with gens := g }
  kept : ∀ {H' : Hp} {s' : Shared} {h' : Heap} {t' : Nat}, Post H' s' → (∀ b u, s'.heap.get? b = some u → h'.get? b = some u) → Post H' { s' with heap := h', toks := t' }
theorem wake_con {ip : List (Addr × Obj)} {σg : L2.St} {P : Program} {w : World} {Post : Hp → Shared → Prop} {g : Array GenState} (ok : G.Ok) (C : Con G P w H s Post) (hL : G.L ≤ s.heap.objs.size) (fm : Frm G ip σg H s) (hg : AllBare g) :
    Inv (G.cx { s with heap := trunc G.L s.heap } H) ip σg H { s with gens := g } := by
  have tr : ∀ b o, (trunc G.L s.heap).get? b = some o → s.heap.get? b = some o := fun b o e => (trunc_of hL e).2
  have low := C.low
  refine ⟨⟨ok.mod, ok.kind, rfl, rfl, Nat.le_of_eq (trunc_size hL), ok.inj, ok.has, fun x c _ e => ?_, fun _ => ok.hd, Around.frames_deeper ok.frames, .inr ⟨rfl, rfl⟩, fun b z => (nomatch z), fun b o e => ?_, ?_, fun b o _ z => (nomatch z), fun b z => (nomatch z), ?_, fun b hb => ?_⟩,
    rfl, hg, Un.kept tr, fm.loc, fm.cell, fm.free, fm.freeC, fun p hp => ?_, ?_, fm.len⟩
  · exact Nat.le_trans (Nat.le_of_eq (trunc_size hL)) (ok.cab x c e)
  · obtain ⟨h1, h2⟩ := C.bs b o e
    exact ⟨(trunc_lt (Nat.lt_of_lt_of_le (Heap.lt_size e) ok.bsz)).trans h1, h2⟩
  · show G.base.objs.size ≤ (trunc G.L s.heap).objs.size
    rw [trunc_size hL]; exact ok.bsz
  · show (trunc G.L s.heap).FunFrames G.base G.outer
    exact frames_low (fun b hb => trunc_lt (low b hb)) C.stk
  · exact C.stf b hb
  · obtain ⟨h1, h2, h3, h4, h5⟩ := fm.pin p hp
    refine ⟨h1, h2, h3, fun hb => ?_, h5⟩
    exact absurd (Nat.lt_of_lt_of_le (low _ hb) h4) (Nat.lt_irrefl _)
  · exact C.hok
/-- what the consumer has behind next(g) -/
def NextC (G : GE) (g : Nat) (ds : List PyData) (Post : Hp → Shared → Prop) (σc : L2.St) (st : Sta) (W : Wd) (H : Hp) (s : Shared) (rr : Option Value) (s' : Shared) : Prop :=
  ∃ W' H', Post H' s' ∧ Rel G.K W' H' σc st ∧ Ext W H σc st.r W' H' σc st.r ∧ Below g s s' ∧ match ds with
    | [] => rr = none
    | d :: ds' => ∃ v x gs', rr = some v ∧ RelV x v ∧ IsD G.K W' H' x d ∧ susp gs' = true ∧ gs' ≠ .running ∧ Slp G g ds' gs' W' H' s'
theorem gen_nextC {B : Around} {P : Program} {w : World} {Post : Hp → Shared → Prop} {σc : L2.St} {st : Sta} (ok : G.Ok) (C : Con G P w H s Post) (hA : G.A = B.in1) (hroom : B.depth < recursionLimit) (R : Rel G.K W H σc st) (h : Slp G g ds gs W H s) :
    wpAny (model P w) B (pyNext (.ref G.a)) (NextC G g ds Post σc st W H s) (fun _ _ => False) s := by
  have hL := h.size
  have hg := h.isGen
  obtain ⟨ip, xo, ig, r, σ, c, tr, fs, S⟩ := h
  have gl : g < s.gens.size := (Array.getElem?_eq_some_iff.mp S.gen).1
  have hh : B.handled = none := by have := ok.hd; rw [hA] at this; exact this
  have aw : Awake G g ip xo ig r st.s { s with heap := trunc G.L s.heap } H W σ (addO xo H) (s.setGen g .running) := by
    have w0 := wake_con ok C hL S.frm (allBare_setGen (g := g) (x := .running) C.bare rfl)
    have gr := S.xp.grow R.fok
    refine ⟨w0.addD S.xp (fun q hq => Nat.le_trans (Nat.le_of_eq (trunc_size hL)) (S.xlow q hq)) S.dj, gr.rel ?_, setGen_at gl, S.low, fun p hp => ?_, trunc_size hL, S.xp.exact, S.xlow, fun q hq => ?_⟩
    · have B := R.bare
      exact ⟨S.reg, fun i l e => absurd e (S.no i l), fun i j l l' a e => absurd e (S.no i l), S.len, B.sl, B.nd, B.sto, B.fok, B.lf⟩
    · obtain ⟨h1, h2, h3⟩ := S.igk p hp
      refine ⟨?_, h2, h3⟩
      show (s.gens.setIfInBounds g .running)[p.1]? = _
      rw [Array.getElem?_setIfInBounds_ne (Nat.ne_of_lt h3)]
      exact h1
    · have n := (S.xp q hq).2
      exact ⟨fun xs e => (nomatch n.symm.trans e), fun o v e => (nomatch n.symm.trans e), fun ps e => (nomatch n.symm.trans e)⟩
  have bel : ∀ {s1 : Shared} {x : GenState}, Below g (s.setGen g .running) s1 → Below g s (s1.setGen g x) := fun {s1 x} b i y hi e q => by
    have n : g ≠ i := Nat.ne_of_gt hi
    have e1 : (s.setGen g .running).gens[i]? = some y := by
      show (s.gens.setIfInBounds g .running)[i]? = _
      rw [Array.getElem?_setIfInBounds_ne n]; exact e
    show (s1.gens.setIfInBounds g x)[i]? = _
    rw [Array.getElem?_setIfInBounds_ne n]
    exact b i y hi e1 q
  have seg := beh_iff.mp S.beh st.s { s with heap := trunc G.L s.heap } H W σ (addO xo H) (s.setGen g .running) (Lat.refl W _) aw
  rw [del_add S.xp] at seg
  have back : ∀ {σ' : L2.St} {W' : Wd} {H' : Hp} {r' : List Slot} {ip' : List (Addr × Obj)} {s1 : Shared} {x : GenState}, x.bare = true → Inv (G.cx { s with heap := trunc G.L s.heap } H) ip' σ' H' s1 → Rel G.K W' H' σ' ⟨r', st.s⟩ → Ext W H σ r W' H' σ' r' →
      Post H' (s1.setGen g x) ∧ Rel G.K W' H' σc st ∧ Ext W H σc st.r W' H' σc st.r := fun {σ' W' H' r' ip' s1 x} hb J R' X' => by
    obtain ⟨R2, X2⟩ := R.behind R'.bare (bare_ext S.no X')
    exact ⟨C.sleep J X'.dom (allBare_setGen J.bare hb), R2, X2⟩
  refine next_gen1 (P := P) (w := w) (gs := gs)
    (F := fun s1 => ds = [] ∧ ZFin G g st.s { s with heap := trunc G.L s.heap } H W H σ r (s.setGen g .running) (.ret (.ok (.ret .none))) s1)
    (Y := fun v gs' s1 => ∃ d ds' l k c p fs, ds = d :: ds' ∧ gs' = (End.susp v false l k c p fs).genState ∧ ZYld G g st.s { s with heap := trunc G.L s.heap } H W H σ r (s.setGen g .running) d (Beh G g ds') (.susp v false l k c p fs) s1)
    hh C.nolim hroom hg S.gen ?_ (fun v gs' s1 hb hy => ?_) fun s1 hf h' hk => ?_
  · rw [← hA, ← C.P, ← C.w]
    refine S.goes _ _ (seg.imp fun e s1 z => ?_)
    cases ds with
    | nil =>
      obtain ⟨rfl, z2⟩ := id z
      exact ⟨rfl, .inl ⟨rfl, rfl, z⟩⟩
    | cons d ds =>
      obtain ⟨_, v, l, k, c, p, fs, _, _, _, _, _, _, _, _, rfl, q, _⟩ := id z
      exact ⟨q, .inr ⟨v, false, l, k, c, p, fs, rfl, d, ds, l, k, c, p, fs, rfl, rfl, z⟩⟩
  · obtain ⟨d, ds', l, k, c, p, fs, rfl, rfl, b0, v2, l2, k2, c2, p2, fs2, x, ip', xo', ig', r', σ', W', H', e, q, rv, hx, no, aw', X', B⟩ := hy
    cases e
    have I' := aw'.inv.delO aw'.kn.known aw'.clr
    obtain ⟨J1, J2, J3⟩ := back hb I' (aw'.rel.del aw'.kn.known) X'
    have gl1 : g < s1.gens.size := (Array.getElem?_eq_some_iff.mp aw'.me).1
    have fm := I'.frm ok aw'.low
    have ne : ∀ {b : Addr} {q : Addr × Obj}, q ∈ xo' → H' b = none → b ≠ q.1 := fun {b q} hq n e => by
      rw [e, aw'.kn q hq] at n; cases n
    refine ⟨W', delO xo' H', J1, J2, J3, bel b0, v, x, (End.susp v false l k c p fs).genState, rfl, rv, hx.del aw'.kn.known, rfl, (by intro e; cases e), ip', xo', ig', r', σ', c, k (.send .none), fs, ?_⟩
    refine ⟨setGen_at gl1, fun Z s' q => q, ?_, ⟨fm.loc, fm.cell, fm.free, fm.freeC, fm.pin, fm.len⟩, (aw'.rel.del aw'.kn.known).val, no, aw'.rel.len, fun p hp => ?_, aw'.low, S.ty, aw'.put, aw'.xlow, fun q hq => ⟨Ne.symm (ne hq aw'.inv.free), fun x c e => ne hq (aw'.inv.freeC x c e), fun u hu => ne hq (aw'.inv.pin u hu).2.1⟩⟩
    · rw [add_del aw'.kn]; exact B
    · obtain ⟨h1, h2, h3⟩ := aw'.gen p hp
      refine ⟨?_, h2, h3⟩
      show (s1.gens.setIfInBounds g _)[p.1]? = _
      rw [Array.getElem?_setIfInBounds_ne (Nat.ne_of_lt h3)]
      exact h1
  · obtain ⟨rfl, _, b0, ip', r', σ', W', H', J, R', X'⟩ := hf
    obtain ⟨J1, J2, J3⟩ := back (x := .finished) rfl J R' X'
    exact ⟨W', H', C.kept (h' := h') (t' := s1.toks) J1 hk, J2, J3, fun i y hi e q => bel (x := .finished) b0 i y hi e q, rfl⟩
end
end DL
/-! EU: a list comprehension over a generator. -/
namespace DL
open PySem PySem.Spec PyProof.Rows L2
section
variable {O : List (Addr × Obj)} {H : Hp} {s : Shared} {W : Wd}
theorem hok_addO {P : Program} {w : World} (h : HOk P w H s.heap) (p : Put O H s) : HOk P w (addO O H) s.heap := fun b o e => by
  by_cases hb : b ∈ O.map (·.1)
  · obtain ⟨q, hq, rfl, e'⟩ := addO_in (O := O) (H := H) hb
    rw [e] at e'
    cases e'
    exact ⟨(p q hq).1, _, (p q hq).1⟩
  · rw [addO_out hb] at e
    exact (h b o e).stay (fun _ _ _ q => q) (fun _ q => p.more q) fun _ _ q => p.more q
theorem lat_del (k : Known O H) (f : Fok W H) : Lat W H W (delO O H) := by
  refine ⟨fun _ h => h, fun _ _ h => h, fun a o fa e => ?_, fun a xs e => ?_, fun a o u e n => ?_⟩
  · obtain ⟨xs, q⟩ := f a fa
    have : o = .lst xs := by rw [e] at q; exact Option.some.inj q
    subst this
    exact k.at e fun _ z => by cases z
  · exact k.at e fun _ z => by cases z
  · exact k.at e fun x z => by
      cases z
      exact n 0 rfl
/-- the same, apart one by one, some of them the consumer's iterators' -/
theorem _root_.L2.Inv.addX {X : Cx} {pins : List (Addr × Obj)} {σ : L2.St} (I : Inv X pins σ H s) (p : Put O H s) (h0 : ∀ q ∈ O, q.1 ∈ X.ex ∨ X.s_0.heap.objs.size ≤ q.1) (hd : ∀ q ∈ O, q.1 ≠ X.env.locals ∧ (∀ x c, X.env.cells.lookup x = some c → c ≠ q.1) ∧ ∀ u ∈ X.pn ++ pins, u.1 ≠ q.1) : Inv X pins σ (addO O H) s := by
  have out : ∀ b, (∀ q ∈ O, b ≠ q.1) → b ∉ O.map (·.1) := fun b h hm => by
    obtain ⟨q, hq, rfl⟩ := List.mem_map.mp hm
    exact h q hq rfl
  have low0 : ∀ b o, X.s_0.heap.get? b = some o → b ∉ X.ex → b ∉ O.map (·.1) := fun b o h nx => out b fun q hq e => by
    rcases h0 q hq with z | z
    · exact nx (e ▸ z)
    · exact absurd (Nat.lt_of_lt_of_le (e ▸ Heap.lt_size h) z) (Nat.lt_irrefl _)
  refine ⟨I.ok, I.os, I.bare, ⟨I.base.keep, I.base.slot, fun b o e n hx => ?_, I.base.there, fun b xs e => p.more (I.base.tups b xs e), fun b o v e => p.more (I.base.frzs b o v e), fun b ps e => ?_⟩, I.loc, I.cell, ?_, fun x c e => ?_, fun q hq => ?_, hok_addO I.hok p, I.len⟩
  · rw [addO_out (low0 b o e hx)]; exact I.base.free b o e n hx
  · obtain ⟨m, q⟩ := I.base.tbls b ps e
    exact ⟨m, p.more q⟩
  · rw [addO_out (out _ fun q hq => Ne.symm (hd q hq).1)]; exact I.free
  · rw [addO_out (out _ fun q hq => (hd q hq).2.1 x c e)]; exact I.freeC x c e
  · obtain ⟨h1, h2, h3⟩ := I.pin q hq
    exact ⟨h1, by rw [addO_out (out _ fun u hu => (hd u hu).2.2 q hq)]; exact h2, h3⟩
end
/-- a block's own objects while the generator runs: the dict of its names -/
abbrev ownB (a : Addr) (o : Obj) : List (Addr × Obj) := [(a, o)]
theorem ownB_at {a : Addr} {o : Obj} {H : Hp} : addO (ownB a o) H a = some (.frz o (.own 0)) := by
  unfold addO
  simp
theorem ownB_ne {a b : Addr} {o : Obj} {H : Hp} (h : b ≠ a) : addO (ownB a o) H b = H b := addO_out (by simpa using h)
theorem delB_ne {a b : Addr} {o : Obj} {H : Hp} (h : b ≠ a) : delO (ownB a o) H b = H b := delO_out (by simpa using h)
theorem delB_at {a : Addr} {o : Obj} {H : Hp} : delO (ownB a o) H a = none := delO_in (by simp)
/-- the block as a consumer of the generator -/
theorem blk_con {G : GE} {XB : Cx} {σ : L2.St} {H : Hp} {s : Shared} {o : Obj} (I : Inv XB [] σ H s) (hP : G.P = XB.prog) (hw : G.w = XB.w) (hb : G.base = XB.base) (ho : G.outer = XB.stack) (low : ∀ b ∈ frs XB.stack, b < G.L) (hL : G.L ≤ s.heap.objs.size)
    (pn : XB.pn = []) (cells : ∀ x c, XB.env.cells.lookup x = some c → c < G.L) (loc : XB.env.locals = XB.s_0.heap.objs.size) (lloc : G.L ≤ XB.env.locals)
    (ex : ∀ b, G.L ≤ b → b < XB.s_0.heap.objs.size → H b = none → b ∈ XB.ex) (hobj : s.heap.get? XB.env.locals = some o) :
    Con G XB.prog XB.w (addO (ownB XB.env.locals o) H) s (fun H' s' => Inv XB [] σ (delO (ownB XB.env.locals o) H') s' ∧ s'.heap.get? XB.env.locals = some o ∧ H' XB.env.locals = some (.frz o (.own 0))) := by
  have pB : Put (ownB XB.env.locals o) H s := fun q hq => by rw [List.mem_singleton.mp hq]; exact ⟨hobj, I.free⟩
  have bl : ∀ b ∈ frs XB.stack, b ≠ XB.env.locals := fun b h => Nat.ne_of_lt (Nat.lt_of_lt_of_le (low b h) lloc)
  refine ⟨hP, hw, fun b ob e => ?_, fun b h => ?_, ?_, fun b h => ?_, ?_, I.bare, I.nolimit, ?_, ?_⟩
  · rw [hb] at e
    obtain ⟨h1, h2⟩ := I.bs b ob e
    refine ⟨h1, ?_⟩
    rw [ownB_ne ?_]
    · exact h2
    · rw [loc]
      exact Nat.ne_of_lt (Nat.lt_of_lt_of_le (Heap.lt_size e) I.ok.bsz)
  · rw [ho] at h; exact low b h
  · rw [hb, ho]; exact I.stack
  · rw [ho] at h
    rw [ownB_ne (bl b h)]
    exact I.stkFree b h
  · rw [hP, hw]; exact hok_addO I.hok pB
  · intro ip σg H' s' g J dom hg
    have hH : H' XB.env.locals = some (.frz o (.own 0)) := J.base.frzs _ _ _ ownB_at
    have hget : s'.heap.get? XB.env.locals = some o := (J.hok _ _ hH).1
    have hos : s'.os = s.os := J.os
    obtain ⟨hh, g', d, tk, os'⟩ := s'
    obtain rfl : os' = s.os := hos
    refine ⟨?_, hget, hH⟩
    have fs : frs XB.stack = (G.cx { s with heap := trunc G.L s.heap } (addO (ownB XB.env.locals o) H)).fs := by show _ = frs G.outer; rw [ho]
    have chm : ∀ b, b ∈ (List.range s.heap.objs.size).filter (fun b => decide (G.L ≤ b) && (H b).isNone && decide (b ≠ XB.env.locals)) ↔ b < s.heap.objs.size ∧ (G.L ≤ b ∧ H b = none) ∧ b ≠ XB.env.locals := fun b => by
      rw [List.mem_filter, List.mem_range]
      simp
    have lo : ∀ b ob, s.heap.get? b = some ob → H b = none → b ∉ (List.range s.heap.objs.size).filter (fun b => decide (G.L ≤ b) && (H b).isNone && decide (b ≠ XB.env.locals)) → b = XB.env.locals ∨ (b ≠ XB.env.locals ∧ (trunc G.L s.heap).get? b = some ob) := fun b ob e n hb' => by
      by_cases q : b = XB.env.locals
      · exact .inl q
      · refine .inr ⟨q, ?_⟩
        have : b < G.L := Nat.lt_of_not_le fun z => hb' ((chm b).mpr ⟨Heap.lt_size e, ⟨z, n⟩, q⟩)
        rw [trunc_lt this]; exact e
    have nB : ∀ {b}, H b = none → b ≠ XB.env.locals → addO (ownB XB.env.locals o) H b = none := fun {b} n q => by rw [ownB_ne q]; exact n
    have kB : ∀ {b u}, H b = some u → b ≠ XB.env.locals := fun {b u} e z => by rw [z, I.free] at e; cases e
    suffices q : Inv XB [] σ (delO (ownB XB.env.locals o) H') { s with heap := hh, gens := g, drawn := d, toks := tk } from q
    refine I.call (h' := hh) (g' := g) (d' := d) (t' := tk) (ch := (List.range s.heap.objs.size).filter (fun b => decide (G.L ≤ b) && (H b).isNone && decide (b ≠ XB.env.locals))) ?_ ?_ hg fun b hb' => ?_
    · rw [fs]
      refine ⟨fun b ob e n h1 h2 => ?_, fun b ob e n h1 h2 => ?_, fun b ob e n h2 => ?_, fun b ob e h2 => ?_, fun b xs e => ?_, fun b ob u e => ?_, fun b ps e => ?_⟩
      · rcases lo b ob e n h2 with rfl | ⟨q, z⟩
        · rw [hobj] at e; cases e; exact hget
        · exact J.base.keep b ob z (nB n q) h1 (by exact fun z => nomatch z)
      · rcases lo b ob e n h2 with rfl | ⟨q, z⟩
        · rw [hobj] at e; cases e; exact ⟨o.slots, hget⟩
        · exact J.base.slot b ob z (nB n q) h1 (by exact fun z => nomatch z)
      · rcases lo b ob e n h2 with rfl | ⟨q, z⟩
        · exact delB_at
        · rw [delB_ne q]
          exact J.base.free b ob z (nB n q) (by exact fun z => nomatch z)
      · cases n : H b with
        | none =>
          rcases lo b ob e n h2 with rfl | ⟨q, z⟩
          · exact ⟨o, hget⟩
          · exact J.base.there b ob z (by exact fun z => nomatch z)
        | some u =>
          have q := kB n
          have : H' b ≠ none := dom b (by rw [ownB_ne q, n]; simp)
          cases m : hh.get? b with
          | none => exact absurd (HOk.gone J.hok m) this
          | some u' => exact ⟨u', rfl⟩
      · have q := kB e
        rw [delB_ne q]
        exact J.base.tups b xs (show addO (ownB XB.env.locals o) H b = some (.tup xs) by rw [ownB_ne q]; exact e)
      · have q := kB e
        rw [delB_ne q]
        exact J.base.frzs b ob u (show addO (ownB XB.env.locals o) H b = some (.frz ob u) by rw [ownB_ne q]; exact e)
      · have q := kB e
        obtain ⟨m, z⟩ := J.base.tbls b ps (show addO (ownB XB.env.locals o) H b = some (.tbl ps) by rw [ownB_ne q]; exact e)
        exact ⟨m, by rw [delB_ne q]; exact z⟩
    · intro b u e
      have q : b ≠ XB.env.locals := fun z => by rw [z, delB_at] at e; cases e
      rw [delB_ne q] at e
      have hk : Known (ownB XB.env.locals o) H' := fun p hp => by rw [List.mem_singleton.mp hp]; exact ⟨o, hH⟩
      have J' := J.hok
      rw [show (G.cx { s with heap := trunc G.L s.heap } (addO (ownB XB.env.locals o) H)).prog = XB.prog from hP, show (G.cx { s with heap := trunc G.L s.heap } (addO (ownB XB.env.locals o) H)).w = XB.w from hw] at J'
      exact (J' b u e).stay (fun _ _ _ q => q) (fun _ q => hk.at q fun _ z => by cases z) fun _ _ q => hk.at q fun _ z => by cases z
    · obtain ⟨h1, ⟨h2, h3⟩, h4⟩ := (chm b).mp hb'
      refine ⟨?_, h4, fun x c e z => absurd (z ▸ cells x c e) (Nat.not_lt.mpr h2), fun p hp => ?_⟩
      · by_cases z : b < XB.s_0.heap.objs.size
        · exact .inl (ex b h2 z h3)
        · exact .inr (Nat.le_of_not_lt z)
      · rw [pn] at hp; cases hp
  · rintro H' s' h' t' ⟨h1, h2, h3⟩ hk
    exact ⟨h1.kept hk, hk _ _ h2, h3⟩
end DL
/-! EV: a list comprehension over a generator, the rule. -/
namespace DL
open PySem PySem.Spec PyProof.Rows L2
theorem lcD_noex (g : TGT) (tt : ET) (te : ED) (vs : List Nat) : ∀ ds acc st c st2, lcD g tt te vs ds acc st ≠ .ex c st2 := by
  intro ds
  induction ds with
  | nil => intro acc st c st2 z; cases z
  | cons d ds ih =>
    intro acc st c st2 z
    unfold lcD at z
    split at z
    · cases z
    · cases e1 : (tt _).nox with
      | bad => rw [e1] at z; cases z
      | ex c' s' =>
        rename_i s1' _
        cases e2 : tt s1' <;> rw [e2] at e1 <;> cases e1
      | ok b s2 =>
        rw [e1] at z
        simp only [Rs.bind_ok] at z
        split at z
        · cases e3 : (te s2).nox with
          | bad => rw [e3] at z; cases z
          | ex c' s' => cases e2 : te s2 <;> rw [e2] at e3 <;> cases e3
          | ok y s3 => rw [e3] at z; exact ih _ _ _ _ z
        · exact ih _ _ _ _ z
theorem wipe_twice (r : List Slot) (vs : List Nat) : wipeR (wipeR r vs) vs = wipeR r vs := by
  refine List.ext_getElem? fun i => ?_
  by_cases hiv : i ∈ vs
  · by_cases hil : i < r.length
    · rw [wipeR_in hiv (by rw [wipeR_len]; exact hil), wipeR_in hiv hil]
    · rw [List.getElem?_eq_none (by rw [wipeR_len, wipeR_len]; omega), List.getElem?_eq_none (by rw [wipeR_len]; omega)]
  · rw [wipeR_out hiv]
section
variable {X : Cx} {k : Nat} {elt tg iter : Expr} {ifs : List Expr} {scope : Scope} {own : List (Str × Nat)} {is : List Nat} {f : EL} {g : TGT} {tt : ET} {te : ED} {pos pos' : Pos}
theorem lcG_core {pins : List (Addr × Obj)} {s : Shared} {σ : L2.St} {W : Wd} {H : Hp} {st : Sta} {Q : VK} {use : Option (Value → Sem Unit)} {Qf : Value → Shared → Prop}
    (hc : X.calm = true) (hN : X.N.Nodup) (I : Inv X pins σ H s) (hi : PGn X k iter f) (hr : Room (k + 1) X.A) (hgd : X.A.guards = some []) (ok : BlkOk X.N X.env.scope scope own) (nc : ∀ y ∈ scope.names, y.2 ≠ .cell) (hv : ∀ i ∈ is, i ∈ own.map (·.2))
    (hg : ∀ (s : Shared) (H : Hp) (C : Addr) (cl : List (Str × Addr)) (fp : List Addr), PG (X.blk s H scope (compEnvC scope cl C X.env) fp) tg (tG X.K false is g)) (ht : ∀ (s : Shared) (H : Hp) (C : Addr) (cl : List (Str × Addr)) (fp : List Addr), PTs (X.blk s H scope (compEnvC scope cl C X.env) fp) ifs (tT X.K E0 tt))
    (he : ∀ (s : Shared) (H : Hp) (C : Addr) (cl : List (Str × Addr)) (fp : List Addr), PE (X.blk s H scope (compEnvC scope cl C X.env) fp) elt (tD X.K E0 te)) (hs : ∀ x, foldedSetIterable iter X.env x = pure x)
    (R : Rel X.K W H σ st) (h : Res X.K E0 σ W H st.r (nLc (nGen f) g tt te (own.map (·.2)) st) fun ds st' W' H' => ∀ p, Fre X.K W' H' σ st'.r p ds → H p = none → Q (.ref p) H')
    (hRR : ∀ D C s' m H', Inv X pins σ H' s' → Q (.ref D) H' → s'.heap.Ns C m → FpOk X pins H' C → compPost (model X.prog X.w) X.A X.xe use Qf (.ref D) C (.ok .next) s') :
    wpAny (model X.prog X.w) X.A (comprehension (.ListComp elt [⟨tg, iter, ifs, 0⟩] scope pos) scope X.env pos' (newList []) false (eval iter X.env) use) Qf X.xe s := by
  have hfree : ∀ y ∈ scope.names, y.2 = .free → ∃ c, X.env.cells.lookup y.1 = some c := fun y hy e => by
    rcases ok.free y hy e with k | k
    · exact I.ok.has _ (.inl k)
    · exact I.ok.has _ (.inr k)
  generalize hvs : own.map (·.2) = vs at *
  unfold nLc at h
  have h1 := h.then
  unfold nGen at h1
  have h2 := h1.then
  refine wpAny_comprehension_free (use := use) rfl hs (closure_ok hfree) ok.kind (fun y hy e => by rw [ok.uniq y hy, e]) (thn (hi.run pins s σ W H st _ I R h2) fun xv s1 hx => ?_)
  obtain ⟨mk, L, a, c, gi, out, st1, W2, H2, rfl, I2, R2, X2, C2, u2, hgen, hgs, hmk⟩ := hx
  by_cases hz : ¬ out.length ≤ 16777216
  · rw [if_neg hz] at C2; exact C2.elim
  have hz := Decidable.not_not.mp hz
  rw [if_pos hz] at C2
  have C3 : Res X.K E0 σ W2 H2 st1.r ((lcD g tt te vs out [] (wipeS vs st1)).bind fun acc s2 => .ok acc { s2 with r := backR st1.r s2.r vs }) (fun ds st' W' H' => ∀ p, Fre X.K W' H' σ st'.r p ds → H p = none → Q (.ref p) H') := C2 W2 H2 R2 .refl
  clear C2 h2 h1
  obtain ⟨eA, eL, ea, eP, ew, eK, eb, eo, okG, slp⟩ := hmk X.A.in1 hgd hr.in1 I2.ok.frames
  generalize mk X.A.in1 = G at *
  subst ea
  have S0 := slp s1 rfl hgen
  have u2 : Und X pins G.L := by rw [eL]; exact u2
  have low := stack_low I2 u2
  refine wpAny_pyIter_gen S0.isGen ?_
  refine wpAny_newObj_type (newEnv_comp ?_) (by show 0 ≤ sizeLine; decide)
  have hgi1 := S0.isGen
  generalize hD : s1.heap.objs.size = D
  have hDn : H2 D = none := I2.hok.fresh (Nat.le_of_eq hD)
  have hLD : G.L ≤ D := by rw [← hD]; exact S0.size
  have hHD : H D = none := by
    cases e : H D with
    | none => rfl
    | some o => exact absurd hDn (X2.dom D (by rw [e]; simp))
  generalize hs3 : ({ s1 with heap := s1.heap.push { cls := .type "list", data := .seq ([] : List Value).toArray } } : Shared) = s3
  have I3 : Inv X pins σ (upd H2 D (.lst [])) s3 := by
    rw [← hs3]
    refine I2.laid (t' := s1.toks) (fun b o e => Heap.get?_push_of_some _ e) (Nat.le_of_eq hD) ⟨Nat.zero_le _, [], 0, .nil, ?_⟩
    rw [← hD]
    exact Heap.get?_push_size _ rfl
  have h3 : s3.heap = s1.heap.push { cls := .type "list", data := .seq ([] : List Value).toArray } := by rw [← hs3]
  have g3 : s3.gens = s1.gens := by rw [← hs3]
  have sz3 : s3.heap.objs.size = D + 1 := by rw [h3, Heap.size_push, hD]
  obtain ⟨Rw, ow⟩ := R2.wiped vs
  have g0 := Fok.new (p := D) (o := .lst []) Rw.fok hDn
  have F0 := Rw.fre hDn g0 upd_same (.nil) (ds := []) (Nat.zero_le _)
  have Rw := g0.rel Rw
  generalize hH3 : upd H2 D (.lst []) = H3 at *
  -- what the generator owns at the start
  obtain ⟨fp, hfp⟩ : ∃ fp : List Addr, ∀ b, b ∈ fp ↔ b < s3.heap.objs.size ∧ G.L ≤ b ∧ H3 b = none := by
    refine ⟨(List.range s3.heap.objs.size).filter fun b => decide (G.L ≤ b) && (H3 b).isNone, fun b => ?_⟩
    rw [List.mem_filter, List.mem_range]
    simp
  have f3 : ∀ b ∈ fp, FpOk X pins H3 b ∧ b < s3.heap.objs.size := fun b hb => by
    obtain ⟨h1, h2, h4⟩ := (hfp b).mp hb
    refine ⟨⟨h4, fun z => absurd (z ▸ u2.loc) (Nat.not_lt.mpr h2), fun z => ?_, .inr (Nat.le_trans u2.s0 h2), fun x c e z => absurd (z ▸ u2.cel x c e) (Nat.not_lt.mpr h2), fun p hp z => absurd (z ▸ u2.pin p hp) (Nat.not_lt.mpr h2)⟩, h1⟩
    obtain ⟨_, o, ho, _⟩ := I3.ok.funs.mem z
    exact absurd (Nat.lt_of_lt_of_le (Heap.lt_size ho) (Nat.le_trans u2.s0 h2)) (Nat.lt_irrefl _)
  have I4 := block_start I3 ok hN f3
  rw [hvs] at I4
  have pg := hg s3 H3 s3.heap.objs.size (cellsFrom (s3.heap.objs.size + 1) scope.names (cloFrom X.env.cells scope.names [])) fp
  have pt := ht s3 H3 s3.heap.objs.size (cellsFrom (s3.heap.objs.size + 1) scope.names (cloFrom X.env.cells scope.names [])) fp
  have pe := he s3 H3 s3.heap.objs.size (cellsFrom (s3.heap.objs.size + 1) scope.names (cloFrom X.env.cells scope.names [])) fp
  show codeAny _ _ (.compStart (.ListComp elt [⟨tg, iter, ifs, 0⟩] scope pos) 0 (.ref G.a) (.ref D) (compEnvC scope (cellsFrom (s3.heap.objs.size + 1) scope.names (cloFrom X.env.cells scope.names [])) s3.heap.objs.size X.env)) (compPost (model X.prog X.w) X.A X.xe use Qf (.ref D) s3.heap.objs.size) { s3 with heap := pushCells (s3.heap.push { cls := .type "dict", data := .dict #[] }) scope.names }
  have cellsLow : ∀ x c, (cellsFrom (s3.heap.objs.size + 1) scope.names (cloFrom X.env.cells scope.names [])).lookup x = some c → c < G.L := fun x c e => by
    have hm := PySem.mem_of_lookup e
    have key : ∀ {n : Nat} {names : List (Str × NameKind)} {acc : List (Str × Addr)}, (∀ y ∈ names, y.2 ≠ .cell) → ∀ p, p ∈ cellsFrom n names acc → p ∈ acc := by
      intro n names
      induction names with
      | nil => intro acc _ p hp; exact hp
      | cons y r ih =>
        obtain ⟨y1, y2⟩ := y
        intro acc hy p hp
        unfold cellsFrom at hp
        rw [if_neg (fun z => hy (y1, y2) List.mem_cons_self (by simpa using z))] at hp
        exact ih (fun q hq => hy q (List.mem_cons_of_mem _ hq)) p hp
    have hm := key nc _ hm
    rcases cloFrom_mem hm with hm | ⟨h1, rfl⟩
    · cases hm
    · obtain ⟨c, hc⟩ := hfree _ h1 rfl
      rw [hc]
      exact u2.cel _ _ hc
  generalize hce : compEnvC scope (cellsFrom (s3.heap.objs.size + 1) scope.names (cloFrom X.env.cells scope.names [])) s3.heap.objs.size X.env = ce at I4 pg pt pe ⊢
  have cL : ce.locals = s3.heap.objs.size := by subst hce; rfl
  have cC : ∀ x c, ce.cells.lookup x = some c → c < G.L := fun x c e => by subst hce; exact cellsLow x c e
  generalize hs4 : ({ s3 with heap := pushCells (s3.heap.push { cls := .type "dict", data := .dict #[] }) scope.names } : Shared) = s4 at I4 ⊢
  have kp4 : ∀ b o, s1.heap.get? b = some o → s4.heap.get? b = some o := fun b o e => by
    rw [← hs4]
    exact pushCells_keeps _ _ _ _ (Heap.get?_push_of_some _ (by rw [h3]; exact Heap.get?_push_of_some _ e))
  have gn4 : s4.gens = s1.gens := by rw [← hs4]; exact g3
  have lloc : G.L ≤ ce.locals := by rw [cL, sz3]; exact Nat.le_succ_of_le hLD
  -- what the turns give
  have okr : ∃ accF stF, lcD g tt te vs out [] (wipeS vs st1) = .ok accF stF := by
    cases e : lcD g tt te vs out [] (wipeS vs st1) with
    | ok acc st2 => exact ⟨acc, st2, rfl⟩
    | bad => rw [e] at C3; exact C3.elim
    | ex c st2 => exact absurd e (lcD_noex g tt te vs _ _ _ _ _)
  obtain ⟨accF, stF, okF⟩ := okr
  have fin : ∀ Wd Hd, Rel X.K Wd Hd (wipe σ vs) stF → Fre X.K Wd Hd (wipe σ vs) stF.r D accF → Ext W2 H2 (wipe σ vs) (wipeR st1.r vs) Wd Hd (wipe σ vs) stF.r → Q (.ref D) Hd := fun Wd Hd R6 F6 X6 => by
    obtain ⟨Rb, Xb⟩ := R2.backed R6 X6
    have h' := C3
    rw [okF] at h'
    refine h' Wd Hd Rb Xb D ⟨F6.at_, F6.z, F6.f, F6.l, fun ho => ?_⟩ hHD
    rcases Xb.on D ho with z | z
    · obtain ⟨_, _, xs, q'⟩ := R2.ownF z
      rw [hDn] at q'; cases q'
    · obtain ⟨i, l, hi, qi⟩ := ho
      by_cases hiv : i ∈ vs
      · have hil : i < stF.r.length := by rw [← backR_len st1.r stF.r vs]; exact (List.getElem?_eq_some_iff.mp hi).1
        rw [backR_in hiv hil] at hi
        have hl2 : stF.r.length = st1.r.length := by rw [← R6.len, wipe_length, R2.len]
        rw [List.getD_eq_getElem?_getD, List.getElem?_eq_getElem (by omega)] at hi
        have hi' : st1.r[i]? = some (.own l) := by rw [List.getElem?_eq_getElem (by omega)]; exact hi
        obtain ⟨b, xs, z1, z2, _⟩ := R2.own i l hi'
        rw [qi] at z1; cases z1
        rw [hDn] at z2; cases z2
      · rw [backR_out hiv] at hi
        exact F6.o ⟨i, l, hi, by rw [wipe_out hiv]; exact qi⟩
  have Isz := I4
  have gslp : ∀ o, s4.heap.get? ce.locals = some o → Slp G gi out (.fresh c) W2 (addO (ownB ce.locals o) H3) s4 := fun o ho => by
    have pB : Put (ownB ce.locals o) H3 s4 := fun q hq => by rw [List.mem_singleton.mp hq]; exact ⟨ho, I4.free⟩
    refine S0.grow okG gn4 kp4 (g0.lat.trans (pB.grow Rw.fok).lat) fun b hb n => ?_
    have b1 : b ≠ ce.locals := by rw [cL, sz3, ← hD]; exact Nat.ne_of_lt (Nat.lt_succ_of_lt hb)
    rw [ownB_ne b1, ← hH3, upd_ne (by rw [← hD]; exact Nat.ne_of_lt hb)]
    exact n
  have loop : codeAny (model X.prog X.w) X.A (.compLoop (.ListComp elt [⟨tg, iter, ifs, 0⟩] scope pos) 0 (.ref G.a) (.ref D) ce) (compPost (model X.prog X.w) X.A X.xe use Qf (.ref D) s3.heap.objs.size) s4 := by
    obtain ⟨o4, ho4⟩ : ∃ o, s4.heap.get? ce.locals = some o := by
      obtain ⟨m, ⟨o, es, ep, ho, _⟩, _⟩ := I4.loc
      exact ⟨o, ho⟩
    have xn : Ext W2 H2 (wipe σ vs) (wipeR st1.r vs) W2 H3 (wipe σ vs) (wipeR st1.r vs) := by
      rw [← hH3]
      exact Ext.updNew .refl hDn
    have back3 : ∀ {Wi : Wd} {Hi : Hp} {ri : List Slot} {acc : List PyData}, Ext W2 H2 (wipe σ vs) (wipeR st1.r vs) Wi Hi (wipe σ vs) ri → Fre X.K Wi Hi (wipe σ vs) ri D acc → ∀ b, Hi b = none → H3 b = none := fun {Wi Hi ri acc} X5 F5 b n => by
      rw [← hH3]
      by_cases z : b = D
      · obtain ⟨xs, q, _⟩ := F5.at_
        rw [z, q] at n; cases n
      · rw [upd_ne z]
        cases e : H2 b with
        | none => rfl
        | some u => exact absurd n (X5.dom b (by rw [e]; simp))
    refine compLoop_any (fun n s' => ∃ Hi Wi sti acc gs ds o, n = ds.length ∧ Inv (X.blk s3 H3 scope ce fp) [] (wipe σ vs) Hi s' ∧ Rel X.K Wi Hi (wipe σ vs) sti ∧ s'.heap.get? ce.locals = some o ∧ Slp G gi ds gs Wi (addO (ownB ce.locals o) Hi) s' ∧ Fre X.K Wi Hi (wipe σ vs) sti.r D acc ∧
      acc.length + ds.length ≤ 16777216 ∧ Ext W2 H2 (wipe σ vs) (wipeR st1.r vs) Wi Hi (wipe σ vs) sti.r ∧ lcD g tt te vs ds acc sti = .ok accF stF ∧ wipeR sti.r vs = sti.r) ?_ out.length ⟨H3, W2, wipeS vs st1, [], _, out, o4, rfl, I4, Rw, ho4, gslp o4 ho4, F0, by simpa using hz, xn, okF, wipe_twice _ _⟩
    rintro n s5 ⟨Hi, Wi, sti, acc, gs, ds, o, rfl, I5, R5, ho, S5, F5, hlen, X5, e5, ew5⟩
    have pB : Put (ownB ce.locals o) Hi s5 := fun q hq => by rw [List.mem_singleton.mp hq]; exact ⟨ho, I5.free⟩
    have RB := (pB.grow R5.fok).rel R5
    have con := blk_con (G := G) (XB := X.blk s3 H3 scope ce fp) (o := o) I5 eP ew eb eo low (Nat.le_of_lt (Nat.lt_of_le_of_lt lloc I5.lt)) rfl cC cL lloc (fun b h1 h2 n => (hfp b).mpr ⟨h2, h1, back3 X5 F5 b n⟩) ho
    have step := gen_nextC (B := X.A) okG con eA hr.depth (by rw [eK]; exact RB) S5
    refine wpAny_mono step (fun rr s6 q => ?_) fun _ _ z => z.elim
    obtain ⟨W6, H6, ⟨I6, ho6, hH6⟩, R6, X6, _, q⟩ := q
    rw [eK] at R6
    have kB : Known (ownB ce.locals o) H6 := fun p hp => by rw [List.mem_singleton.mp hp]; exact ⟨o, hH6⟩
    have R7 : Rel X.K W6 (delO (ownB ce.locals o) H6) (wipe σ vs) sti := R6.del kB
    have X7 : Ext Wi Hi (wipe σ vs) sti.r W6 (delO (ownB ce.locals o) H6) (wipe σ vs) sti.r := X6.del pB
    have F7 : Fre X.K W6 (delO (ownB ce.locals o) H6) (wipe σ vs) sti.r D acc := F5.ext (st := sti) R5 X7
    have X57 := X5.trans X7
    cases ds with
    | nil =>
      have q : rr = none := q
      subst q
      have I8 : Inv X pins σ (delO (ownB ce.locals o) H6) s6 := I3.call' (ch := fp) I6.os I6.base I6.hok I6.bare fun b hb => ⟨(f3 b hb).1.2.2.2.1, (f3 b hb).1.2.1, (f3 b hb).1.2.2.2.2.1, (f3 b hb).1.2.2.2.2.2⟩
      have nC : delO (ownB ce.locals o) H6 s3.heap.objs.size = none := by
        rw [← cL]
        exact I6.free
      obtain ⟨m, hn, _⟩ := I6.loc
      have hn : s6.heap.Ns ce.locals m := hn
      rw [cL] at hn
      unfold lcD at e5
      cases e5
      exact hRR D s3.heap.objs.size s6 m _ I8 (fin W6 _ R7 F7 X57) hn (I3.fpOk (Nat.le_refl _) nC)
    | cons d ds =>
      obtain ⟨v, x, gs', rfl, rv, hxd, sg, ne, S6⟩ := q
      rw [eK] at hxd
      have hxd := hxd.del kB
      obtain ⟨oG, nm, qn, hoG, hcl, hda, _⟩ := S6.isGen
      refine go_of hoG hcl hda (by decide) ?_
      obtain ⟨O, J, pO, lO, jO, kO⟩ := S6.objs okG sg
      have nO : ∀ q ∈ O, q.1 ≠ ce.locals := fun q hq z => by
        have := (pO q hq).2
        rw [z, hH6] at this
        cases this
      have pO7 : Put O (delO (ownB ce.locals o) H6) s6 := fun q hq => ⟨(pO q hq).1, by rw [delB_ne (nO q hq)]; exact (pO q hq).2⟩
      have IA : Inv (X.blk s3 H3 scope ce fp) [] (wipe σ vs) (addO O (delO (ownB ce.locals o) H6)) s6 := I6.addX pO7 (fun q hq => by
        by_cases z : q.1 < s3.heap.objs.size
        · refine .inl ((hfp q.1).mpr ⟨z, lO q hq, ?_⟩)
          exact back3 X57 F7 q.1 (pO7 q hq).2
        · exact .inr (Nat.le_of_not_lt z)) fun q hq => ⟨nO q hq, fun x c e z => absurd (z ▸ cC x c e) (Nat.not_lt.mpr (lO q hq)), fun p hp => nomatch hp⟩
      have clr := I6.clr pO7
      have gr := pO7.grow R7.fok
      have RA := gr.rel R7
      generalize hH7 : delO (ownB ce.locals o) H6 = H7 at *
      unfold lcD at e5
      cases eg : g d sti with
      | none => rw [eg] at e5; cases e5
      | some s8 =>
      rw [eg] at e5
      dsimp only at e5
      have hDO : D ∉ O.map (·.1) := fun hm => by
        obtain ⟨q, hq, e⟩ := List.mem_map.mp hm
        obtain ⟨xs, z, _⟩ := F7.at_
        have := (pO7 q hq).2
        rw [e, z] at this
        cases this
      -- the turn's end
      have done : ∀ {s' : Shared} {H' : Hp} {W' : Wd} {σ' : L2.St} {sk : Sta} {acc' : List PyData}, Off is (wipe σ vs) σ' → Inv (X.blk s3 H3 scope ce fp) [] σ' H' s' → Rel X.K W' H' σ' sk → Ext W2 H2 (wipe σ vs) (wipeR st1.r vs) W' H' σ' sk.r → Lat W6 H7 W' H' → Fre X.K W' H' σ' sk.r D acc' → Put O H' s' →
          acc'.length + ds.length ≤ 16777216 → lcD g tt te vs ds acc' (wipeS vs sk) = .ok accF stF → Sleeps s6.gens s' → ∃ m, m < (d :: ds).length ∧ ∃ Hi Wi sti acc gs ds o, m = ds.length ∧ Inv (X.blk s3 H3 scope ce fp) [] (wipe σ vs) Hi s' ∧ Rel X.K Wi Hi (wipe σ vs) sti ∧ s'.heap.get? ce.locals = some o ∧ Slp G gi ds gs Wi (addO (ownB ce.locals o) Hi) s' ∧ Fre X.K Wi Hi (wipe σ vs) sti.r D acc ∧
          acc.length + ds.length ≤ 16777216 ∧ Ext W2 H2 (wipe σ vs) (wipeR st1.r vs) Wi Hi (wipe σ vs) sti.r ∧ lcD g tt te vs ds acc sti = .ok accF stF ∧ wipeR sti.r vs = sti.r := fun {s' H' W' σ' sk acc'} off I' R' X' L' F' P' hl' el' slp' => by
        obtain ⟨r1, o1⟩ := R'.wiped vs
        have e3 : wipe σ' vs = wipe σ vs := (wipe_off off hv).trans wipe_wipe
        rw [e3] at r1 o1
        have hl : (wipe σ vs).length = σ'.length := by rw [← e3, wipe_length]
        have Iw := I'.weak hl fun j v e => by
          rw [← e3] at e
          exact (wipe_some e).1
        obtain ⟨o', ho'⟩ : ∃ o, s'.heap.get? ce.locals = some o := by
          obtain ⟨m, ⟨o, es, ep, ho, _⟩, _⟩ := Iw.loc
          exact ⟨o, ho⟩
        have pB' : Put (ownB ce.locals o') H' s' := fun q hq => by rw [List.mem_singleton.mp hq]; exact ⟨ho', Iw.free⟩
        refine ⟨ds.length, Nat.lt_succ_self _, H', W', wipeS vs sk, acc', gs', ds, o', rfl, Iw, r1, ho', ?_, ⟨F'.at_, F'.z, F'.f, F'.l, fun ho => F'.o (o1 D ho)⟩, hl', ⟨X'.f, X'.fn, X'.l, X'.keep, X'.dom, fun a ha => X'.on a (o1 a ha)⟩, el', wipe_twice _ _⟩
        refine kO s' W' _ (fun q hq => ⟨(P' q hq).1, by rw [ownB_ne (nO q hq)]; exact (P' q hq).2⟩) ?_ fun p hp => slp' p.1 p.2 (jO p hp).1 (jO p hp).2.1
        have l1 : Lat W6 H6 W6 H7 := by rw [← hH7]; exact lat_del kB R6.fok
        exact (l1.trans L').trans (pB'.grow R'.fok).lat
      refine weakF (over_kp (X := X.blk s3 H3 scope ce fp) IA fun s9 hs9 I9 => ?_)
      have run1 := pg.run [] s9 (wipe σ vs) (addO O H7) x v (fun σ' H' => Off is (wipe σ vs) σ' ∧ ∃ W', Rel X.K W' H' σ' s8 ∧ Ext W6 (addO O H7) (wipe σ vs) sti.r W' H' σ' s8.r) I9 rv ⟨W6, sti, d, s8, RA, .inl (hxd.lat gr.lat), eg, fun σ' o R' X' => ⟨o, W6, R', X'⟩⟩
      refine wpAny_mono run1 (fun _ s10 q10 g10 kp10 => ?_) fun _ _ q => q
      obtain ⟨σ10, H10, I10, o10, W10, R10, X10⟩ := q10
      have I10' := I10.gens (kp10.bare I10.bare)
      refine weakF (over_kp (X := X.blk s3 H3 scope ce fp) I10' fun s11 hs11 I11 => ?_)
      have ht2 : Res X.K E0 σ10 W10 H10 s8.r (tt s8) fun b s' W' H' => tt s8 = .ok b s' ∧ Rel X.K W' H' σ10 s' ∧ Ext W6 (addO O H7) (wipe σ vs) sti.r W' H' σ10 s'.r := by
        cases et : tt s8 with
        | ok b s' => exact fun W' H' R' X' => ⟨rfl, R', X10.trans X'⟩
        | ex c s' => rw [et] at e5; simp [Rs.nox] at e5
        | bad => rw [et] at e5; simp [Rs.nox] at e5
      have run2 := pt.run [] s11 σ10 H10 (fun b H' => ∃ W' s', tt s8 = .ok b s' ∧ Rel X.K W' H' σ10 s' ∧ Ext W6 (addO O H7) (wipe σ vs) sti.r W' H' σ10 s'.r) I11 ⟨W10, s8, R10, ht2.imp fun b s' W' H' _ _ _ z => ⟨W', s', z⟩⟩
      refine wpAny_mono run2 (fun b s12 q12 g12 kp12 => ?_) fun _ _ q => q
      obtain ⟨H12, I12, W12, s8b, et, R12, X12⟩ := q12
      rw [et] at e5
      simp only [Rs.nox_ok, Rs.bind_ok] at e5
      have I12' := I12.gens (kp12.bare I12.bare)
      have sl12 : Sleeps s6.gens { s12 with gens := g12 } := Sleeps.trans (s1 := { s10 with gens := g10 }) kp10.sleeps kp12.sleeps
      have kn12 := X12.known pO7 R7
      have K12 := knowns_of kn12
      have X12d := X12.del pO7
      cases b with
      | false =>
        rw [if_neg Bool.false_ne_true] at e5 ⊢
        have F12 : Fre X.K W12 (delO O H12) σ10 s8b.r D acc := F7.ext (st := sti) R7 X12d
        have I12d := I12'.delO K12 clr
        exact done o10 I12d (R12.del K12) (X57.trans X12d) (R7.lat X12d) F12 (put_after pO7 kn12 I12'.hok) (by rw [List.length_cons] at hlen; omega) e5 sl12
      | true =>
        rw [if_pos rfl] at e5 ⊢
        refine weakF (over_kp (X := X.blk s3 H3 scope ce fp) I12' fun s13 hs13 I13 => ?_)
        have hte : Res X.K E0 σ10 W12 H12 s8b.r (te s8b) fun y s' W' H' => te s8b = .ok y s' ∧ Rel X.K W' H' σ10 s' ∧ Ext W6 (addO O H7) (wipe σ vs) sti.r W' H' σ10 s'.r := by
          cases ete : te s8b with
          | ok y s' => exact fun W' H' R' X' => ⟨rfl, R', X12.trans X'⟩
          | ex c s' => rw [ete] at e5; simp [Rs.nox] at e5
          | bad => rw [ete] at e5; simp [Rs.nox] at e5
        have run3 := pe.run [] s13 σ10 H12 (fun y H' => ∃ W' s' dd, te s8b = .ok dd s' ∧ Rel X.K W' H' σ10 s' ∧ Ext W6 (addO O H7) (wipe σ vs) sti.r W' H' σ10 s'.r ∧ IsD X.K W' H' y dd) I13 ⟨W12, s8b, R12, hte.imp fun dd s' W' H' _ _ _ z v hv => ⟨W', s', dd, z.1, z.2.1, z.2.2, hv⟩⟩
        refine wpAny_mono run3 (fun xv s14 q14 g14 kp14 => ?_) fun _ _ q => q
        obtain ⟨y, H14, I14, ry, W14, s8c, dd, ete, R14, X14, hy⟩ := q14
        rw [ete] at e5
        simp only [Rs.nox_ok, Rs.bind_ok] at e5
        have I14' := I14.gens (kp14.bare I14.bare)
        have sl14 : Sleeps s6.gens { s14 with gens := g14 } := Sleeps.trans (s1 := { s12 with gens := g12 }) sl12 kp14.sleeps
        have kn14 := X14.known pO7 R7
        have K14 := knowns_of kn14
        have X14d := X14.del pO7
        have F14 : Fre X.K W14 (delO O H14) σ10 s8c.r D acc := F7.ext (st := sti) R7 X14d
        have R14d := R14.del K14
        obtain ⟨accV, ea, hacV⟩ := F14.at_
        have ea' : H14 D = some (.lst accV) := (delO_out (H := H14) hDO).symm.trans ea
        have hlen' : acc.length + (ds.length + 1) ≤ 16777216 := by rw [List.length_cons] at hlen; exact hlen
        have hlt : accV.length < sizeLine := by rw [hacV.length, sizeLine_eq]; omega
        refine weakF (over_kp (X := X.blk s3 H3 scope ce fp) I14' fun s15 hs15 I15 => ?_)
        refine app_ok (X := X.blk s3 H3 scope ce fp) I15 ea' hlt ry fun s16 I16 => ?_
        intro g16 kp16
        obtain ⟨R16, F16, L16⟩ := R14d.updFre (es := acc ++ [dd]) F14 (hacV.append (.cons (hy.del K14) .nil)) (by rw [List.length_append, List.length_singleton, sizeLine_eq]; omega)
        have eqd : delO O (upd H14 D (.lst (accV ++ [y]))) = upd (delO O H14) D (.lst (accV ++ [y])) := by
          funext b
          by_cases z : b = D
          · subst z
            rw [delO_out hDO, upd_same, upd_same]
          · rw [upd_ne z]
            unfold delO
            rw [upd_ne z]
        have kn16 : ∀ a ∈ O.map (·.1), upd H14 D (.lst (accV ++ [y])) a = addO O H7 a := fun a ha => by
          have nb : a ≠ D := fun z => hDO (by rw [← z]; exact ha)
          rw [upd_ne nb]
          exact kn14 a ha
        have K16 := knowns_of kn16
        have I16' := I16.gens (kp16.bare I16.bare)
        have I16d := I16'.delO K16 clr
        have P16 := put_after pO7 kn16 I16'.hok
        rw [eqd] at I16d P16
        have sl16 : Sleeps s6.gens { s16 with gens := g16 } := Sleeps.trans (s1 := { s14 with gens := g14 }) sl14 kp16.sleeps
        exact done o10 I16d R16 ((X57.trans X14d).updNew hDn) ((R7.lat X14d).trans L16) F16 P16 (by rw [List.length_append, List.length_singleton]; omega) e5 sl16
  exact codeAny_compStart_list loop (wpAny_pyIter_gen (hgi1.keeps kp4) loop)
theorem dn_lcG (hi : PGn X k iter f) (hr : Room (k + 1) X.A) (hgd : X.A.guards = some []) (hc : X.calm = true) (hN : X.N.Nodup) (ok : BlkOk X.N X.env.scope scope own) (nc : ∀ y ∈ scope.names, y.2 ≠ .cell) (hv : ∀ i ∈ is, i ∈ own.map (·.2))
    (hg : ∀ (s : Shared) (H : Hp) (C : Addr) (cl : List (Str × Addr)) (fp : List Addr), PG (X.blk s H scope (compEnvC scope cl C X.env) fp) tg (tG X.K false is g)) (ht : ∀ (s : Shared) (H : Hp) (C : Addr) (cl : List (Str × Addr)) (fp : List Addr), PTs (X.blk s H scope (compEnvC scope cl C X.env) fp) ifs (tT X.K E0 tt))
    (he : ∀ (s : Shared) (H : Hp) (C : Addr) (cl : List (Str × Addr)) (fp : List Addr), PE (X.blk s H scope (compEnvC scope cl C X.env) fp) elt (tD X.K E0 te)) (hs : ∀ x, foldedSetIterable iter X.env x = pure x := by intro _; rfl) :
    PE X (.ListComp elt [⟨tg, iter, ifs, 0⟩] scope pos) (tN X.K E0 (nLc (nGen f) g tt te (own.map (·.2)))) := by
  refine ⟨fun pins s σ H Q I ⟨W, st, R, h⟩ => ?_⟩
  rw [eval_ListComp]
  refine lcG_core hc hN I hi hr hgd ok nc hv hg ht he hs R h fun D C s' m H' I' q hn f => ⟨m, hn, fun h'' sb => ?_⟩
  obtain ⟨f0, f1, f2, f3, f4, f5⟩ := f
  exact ⟨.ref D, H', I'.turned (t' := s'.toks) (fun b o hb e => (sb.2 b hb).trans e) f0 f1 f3 f4 f5, rfl, q⟩
/-- name = [.. for .. in gen()] on one line: Dw is what the store then answers to -/
theorem ps_setLcG (i : Nat) {y : Str} {py : Pos} {spos : Pos} {f' : SD} (hi : PGn X k iter f) (hr : Room (k + 1) X.A) (hgd : X.A.guards = some []) (hc : X.calm = true) (hN : X.N.Nodup) (ok : BlkOk X.N X.env.scope scope own) (nc : ∀ y ∈ scope.names, y.2 ≠ .cell) (hv : ∀ i ∈ is, i ∈ own.map (·.2))
    (hg : ∀ (s : Shared) (H : Hp) (C : Addr) (cl : List (Str × Addr)) (fp : List Addr), PG (X.blk s H scope (compEnvC scope cl C X.env) fp) tg (tG X.K false is g)) (ht : ∀ (s : Shared) (H : Hp) (C : Addr) (cl : List (Str × Addr)) (fp : List Addr), PTs (X.blk s H scope (compEnvC scope cl C X.env) fp) ifs (tT X.K E0 tt))
    (he : ∀ (s : Shared) (H : Hp) (C : Addr) (cl : List (Str × Addr)) (fp : List Addr), PE (X.blk s H scope (compEnvC scope cl C X.env) fp) elt (tD X.K E0 te))
    (hy : X.N[i]? = some y) (hyl : X.env.scope.names.lookup y = some .local) (hsw : swapsWith (.ListComp elt [⟨tg, iter, ifs, 0⟩] scope pos) (some (.Name y py)) spos.line X.env = pure true) (hs : ∀ x, foldedSetIterable iter X.env x = pure x)
    (rd : ∀ D σ H, tS X.K E0 f' D σ H → tAsg (tN X.K E0 (nLc (nGen f) g tt te (own.map (·.2)))) (gName i) D σ H) :
    PS X (.Assign [.Name y py] (.ListComp elt [⟨tg, iter, ifs, 0⟩] scope pos) spos) (tS X.K E0 f') := by
  refine ⟨fun pins s σ H D I h => ?_⟩
  rw [exec_Assign_Name_used _ _ _ _ hsw]
  refine wpAny_bind (wpAny_standAt (wpAny_bind ?_))
  show wpAny _ X.A (do let _ ← comprehension (.ListComp elt [⟨tg, iter, ifs, 0⟩] scope pos) scope X.env (firstIterPos [⟨tg, iter, ifs, 0⟩] pos) (newList []) false (eval iter X.env) (some (assign (.Name y py) X.env))) _ _ s
  have h := rd D σ H h
  have h : tN X.K E0 (nLc (nGen f) g tt te (own.map (·.2))) σ H (fun x H1 => gName i x σ H1 D.nx) := h
  obtain ⟨W, st, R, h⟩ := h
  refine wpAny_bind (thn (lcG_core (Q := fun x H1 => gName i x σ H1 D.nx) (Qf := fun _ s' => SP X pins D .next s') hc hN I hi hr hgd ok nc hv hg ht he hs R h fun L C s' m H' I' q hn f => ?_) fun _ s' hq => wpAny_pure (wpAny_pure hq))
  show wpAny _ _ (assign (.Name y py) X.env (.ref L)) _ _ _
  refine wpAny_assign_Name (store_ok2 (v := V.ref L) I' hN hy (.inl hyl) rfl (fun s2 I2 ⟨a, sb, ha⟩ => ?_) (.inr hyl))
  obtain ⟨f0, f1, f2, f3, f4, f5⟩ := f
  have haC : C ≠ a := by
    rcases ha with z | z
    · rw [z]; exact f1
    · exact fun e => f4 y a z e.symm
  refine ⟨m, hn.sameBut sb haC, fun h3 sb3 => ?_⟩
  exact ⟨_, H', I2.turned (t' := s2.toks) (fun b o hb e => (sb3.2 b hb).trans e) f0 f1 f3 f4 f5, q⟩
theorem ds_lcOwnG (i : Nat) {y : Str} {py : Pos} {spos : Pos} (hi : PGn X k iter f) (hr : Room (k + 1) X.A) (hgd : X.A.guards = some []) (hc : X.calm = true) (hN : X.N.Nodup) (ok : BlkOk X.N X.env.scope scope own) (nc : ∀ y ∈ scope.names, y.2 ≠ .cell) (hv : ∀ i ∈ is, i ∈ own.map (·.2))
    (hg : ∀ (s : Shared) (H : Hp) (C : Addr) (cl : List (Str × Addr)) (fp : List Addr), PG (X.blk s H scope (compEnvC scope cl C X.env) fp) tg (tG X.K false is g)) (ht : ∀ (s : Shared) (H : Hp) (C : Addr) (cl : List (Str × Addr)) (fp : List Addr), PTs (X.blk s H scope (compEnvC scope cl C X.env) fp) ifs (tT X.K E0 tt))
    (he : ∀ (s : Shared) (H : Hp) (C : Addr) (cl : List (Str × Addr)) (fp : List Addr), PE (X.blk s H scope (compEnvC scope cl C X.env) fp) elt (tD X.K E0 te))
    (hy : X.N[i]? = some y := by rfl) (hyl : X.env.scope.names.lookup y = some .local := by rfl) (hsw : swapsWith (.ListComp elt [⟨tg, iter, ifs, 0⟩] scope pos) (some (.Name y py)) spos.line X.env = pure true := by exact sw_true rfl rfl rfl (by decide +kernel)) (hs : ∀ x, foldedSetIterable iter X.env x = pure x := by intro _; rfl) :
    PS X (.Assign [.Name y py] (.ListComp elt [⟨tg, iter, ifs, 0⟩] scope pos) spos) (tS X.K E0 (sOwn i (nLc (nGen f) g tt te (own.map (·.2))))) :=
  ps_setLcG i hi hr hgd hc hN ok nc hv hg ht he hy hyl hsw hs fun _ _ _ h => own_read h
theorem ds_lcAsgG (i : Nat) {y : Str} {py : Pos} {spos : Pos} (hi : PGn X k iter f) (hr : Room (k + 1) X.A) (hgd : X.A.guards = some []) (hc : X.calm = true) (hN : X.N.Nodup) (ok : BlkOk X.N X.env.scope scope own) (nc : ∀ y ∈ scope.names, y.2 ≠ .cell) (hv : ∀ i ∈ is, i ∈ own.map (·.2))
    (hg : ∀ (s : Shared) (H : Hp) (C : Addr) (cl : List (Str × Addr)) (fp : List Addr), PG (X.blk s H scope (compEnvC scope cl C X.env) fp) tg (tG X.K false is g)) (ht : ∀ (s : Shared) (H : Hp) (C : Addr) (cl : List (Str × Addr)) (fp : List Addr), PTs (X.blk s H scope (compEnvC scope cl C X.env) fp) ifs (tT X.K E0 tt))
    (he : ∀ (s : Shared) (H : Hp) (C : Addr) (cl : List (Str × Addr)) (fp : List Addr), PE (X.blk s H scope (compEnvC scope cl C X.env) fp) elt (tD X.K E0 te))
    (hy : X.N[i]? = some y := by rfl) (hyl : X.env.scope.names.lookup y = some .local := by rfl) (hsw : swapsWith (.ListComp elt [⟨tg, iter, ifs, 0⟩] scope pos) (some (.Name y py)) spos.line X.env = pure true := by exact sw_true rfl rfl rfl (by decide +kernel)) (hs : ∀ x, foldedSetIterable iter X.env x = pure x := by intro _; rfl) :
    PS X (.Assign [.Name y py] (.ListComp elt [⟨tg, iter, ifs, 0⟩] scope pos) spos) (tS X.K E0 (sAsg (gN i) (eLst (nLc (nGen f) g tt te (own.map (·.2)))))) :=
  ps_setLcG i hi hr hgd hc hN ok nc hv hg ht he hy hyl hsw hs fun D σ H h => by
    refine new_read ?_
    obtain ⟨W, st, R, h⟩ := h
    refine tD_of R (h.then.imp fun d s1 W1 H1 _ R1 X1 h1 v hv => ?_)
    obtain ⟨R2, X2⟩ := R1.setVal i hv
    exact h1 (σ.set i (some v)) W1 H1 R2 X2
end
end DL
/-! EW: list.count of any data. -/
namespace DL
open PySem PySem.Spec PyProof.Rows L2
def rCountD (K : PySem.W.Frag) : V → List V → Hp → VK → Prop := fun x xs H Q => ∃ (a : Addr) (y : V) (d : PyData) (ds : List PyData), x = V.ref a ∧ xs = [y] ∧ Dp K H (V.ref a) (.list ds) ∧ Dp K H y d ∧
  SeqAt.shaped (.list ds) = true ∧ SeqAt.shaped d = true ∧ Q (.int (ds.countP (fun z => PyData.eqv z d) : Nat)) H
section
variable {X : Cx} {E : EX} {pos apos p : Pos} {e o : Expr} {fa fb : ED}
theorem mt_countD (hu : X.A.units + 65 < cLine) : MtR X "list.count" (rCountD X.K) := by
  intro pins s σ H x xs v us Q I rx rxs h
  obtain ⟨a, y, d, ds, rfl, rfl, hl, hy, sl, sd, q⟩ := h
  cases rx
  cases rxs with
  | cons ry rt =>
    rename_i uy ut
    cases rt
    obtain ⟨bs, r1⟩ := Dp.reads I d y uy hy ry
    have hxs : PyData.canLayAll0 ds = true := SeqAt.canLay_of_shaped sl
    have hroom : X.A.units + 1 + min (PyData.depthAll ds) d.depth < cLine := room_in_shaped sd hu
    cases hl with
    | lst hs ha =>
      obtain ⟨its, rv, ⟨⟨cls, dd, data, sls⟩, n, ho, hc, hdn, hdt⟩, hlen⟩ := I.list hs
      simp only at hc hdt
      subst hc hdt
      obtain ⟨as, h4⟩ := Dp.readsAll I ds _ its ha rv
      have hmap : its.map (SeqAt.readOf s.heap) = ds := SeqAt.readsAll_map ds its as hxs h4
      refine call_meets PySem.F.slot_list_count ⟨_, ho, rfl⟩ PySem.F.entry_list_count (PySem.F.args_list_count_2 _ _)
        (PySem.SeqAt.list_countAt a its.toArray n dd sls uy (fun u => PyData.eqv (SeqAt.readOf s.heap u) d)) ⟨ho, SeqAt.items_eqAt (vs := its.toArray) (show ReadsAll s.heap its.toArray.toList ds as from h4) r1 hxs (SeqAt.canLay_of_shaped sd) hroom, ?_⟩
      have ec : its.toArray.toList.countP (fun u => PyData.eqv (SeqAt.readOf s.heap u) d) = ds.countP (fun z => PyData.eqv z d) := by
        rw [← hmap, List.countP_map]
        rfl
      rw [ec]
      exact ⟨.int (ds.countP (fun z => PyData.eqv z d) : Nat), H, I.tok _, ⟨_, rfl⟩, q⟩
def cntDeep (y : PyData) (ys : List PyData) : Option PyData := if shp (.list ys) && shp y then some (.int (ys.countP fun z => PyData.eqv z y : Nat)) else none
def eCnt (fo fa : ED) : ED := fun st => (fo st).bind fun x s1 => match x with
  | .list ys => (fa s1).bind fun y s2 => match cntDeep y ys with
    | some d => .ok d s2
    | none => .bad
  | _ => .bad
theorem de_cnt {apos : Pos} (hu : X.A.units + 65 < cLine) (ho : PE X o (tD X.K E fa)) (ha : PE X e (tD X.K E fb)) (hbase : attributeBase o "count" X.env (eval o X.env) = eval o X.env := by rfl)
    (hfew : ((backTo pos (starEach [e] X.env)).all (fun x => !x.1) && (backToKw pos (keywordEach [] X.env)).all (fun x => x.1.isSome) && decide ([e].length + ([] : List Keyword).length + (if ([] : List Keyword).isEmpty then 0 else 1) < 30)) = true := by rfl)
    (hline : (apos.endLine == pos.line) = true := by rfl) (hs : starEach [e] X.env = (false, eval e X.env) :: starEach [] X.env := by rfl) : PE X (.Call (.Attribute o "count" apos) [e] [] pos) (tD X.K E (eCnt fa fb)) := by
  refine pe_imp (pe_bm PySem.F.plainAttrs_list PySem.F.slot_list_count PySem.F.type_list_count (mt_countD hu) ho (pa_cons ha pa_nil hs) hbase hfew hline hs) fun σ H Q h => ?_
  obtain ⟨W, st, R, h⟩ := h
  refine tD_of R (h.then.imp fun x s1 W1 H1 _ R1 X1 h1 v hv => ?_)
  cases x with
  | list ys =>
    cases hv with
    | @lst p xs _ f z hxs =>
      refine ⟨.inl ⟨rfl, xs, f.sq⟩, tD_of R1 (h1.then.imp fun y s2 W2 H2 _ R2 X2 h2 u hu => ?_)⟩
      cases ex : cntDeep y ys with
      | none => rw [ex] at h2; exact h2.elim
      | some d =>
        rw [ex] at h2
        unfold cntDeep at ex
        split at ex
        · rename_i hc
          rw [Bool.and_eq_true] at hc
          cases ex
          exact ⟨_, u, y, ys, rfl, rfl, IsD.dp _ (shp_lay hc.1) (.lst (f.lat (R1.lat X2)) z (hxs.lat (R1.lat X2))), IsD.dp _ (shp_lay hc.2) hu, hc.1, hc.2, h2 W2 H2 R2 .refl _ (.int _)⟩
        · cases ex
  | _ => exact h1.elim
@[simp] theorem wp_count {C : PyData → Sta → Prop} {st : Sta} : (eCnt fa fb st).wp C ↔ (fa st).wp fun x s => ∃ ys, x = .list ys ∧ (fb s).wp fun y s' => ∃ d, cntDeep y ys = some d ∧ C d s' := by
  unfold eCnt
  rw [wp_bind]
  refine ⟨fun h => wp_mono h fun x s z => ?_, fun h => wp_mono h fun x s ⟨ys, e, z⟩ => ?_⟩
  · cases x with
    | list ys =>
      refine ⟨ys, rfl, wp_mono (wp_bind.mp z) fun y s' z => ?_⟩
      cases e : cntDeep y ys with
      | none => rw [e] at z; exact z.elim
      | some d => rw [e] at z; exact ⟨_, rfl, z⟩
    | _ => exact z.elim
  · subst e
    exact wp_bind.mpr (wp_mono z fun y s' ⟨d, e, z⟩ => by rw [e]; exact z)
end
end DL
/-! EX: a chain of three comparisons, as a test. -/
namespace DL
open PySem PySem.Spec PyProof.Rows L2
def tChain3 (r r' r'' : R2) (ta tb tc td : TE) : TE := fun σ H Q => ta σ H fun x H1 => tb σ H1 fun y H2 => r x y H2 fun z H3 => ∃ k, z = .bl k ∧
  (if k = true then tc σ H3 fun w' H4 => r' y w' H4 fun z2 H5 => ∃ k2, z2 = .bl k2 ∧ (if k2 = true then td σ H5 fun q H6 => r'' w' q H6 Q else Q (.bl false) H5) else Q (.bl false) H3)
section
variable {X : Cx} {E : EX} {pos : Pos} {a b c d : Expr} {ta tb tc td : TE} {fa fb fc fd : ED}
theorem pt_chain3 {op op' op'' : CmpOp} {r r' r'' : R2} (ho : OpR X (compareOp op) r) (ho' : OpR X (compareOp op') r') (ho'' : OpR X (compareOp op'') r'') (ha : PE X a ta) (hb : PE X b tb) (hc : PE X c tc) (hd : PE X d td)
    (hm : lastMarks [op, op', op''] [b, c, d] = false := by with_unfolding_all rfl) : PT X (.Compare a [op, op', op''] [b, c, d] pos) (tTest (tChain3 r r' r'' ta tb tc td)) := by
  refine ⟨fun pins s σ H Q I h => ?_⟩
  refine isTrue_chain (thn (ha.run pins s σ H _ I h) fun v s1 ⟨x, H1, I1, r1, q1⟩ => test_link (thn (hb.run pins s1 σ H1 _ I1 q1) fun u s2 ⟨y, H2, I2, r2, q2⟩ =>
    thn (ho pins s2 σ H2 x y v u _ I2 r1 r2 q2) fun d s3 ⟨z, H3, I3, r3, k, e, q3⟩ => ?_)) hm
  subst e
  cases r3
  refine wpAny_truthy_bool ?_
  cases k with
  | false =>
    obtain ⟨k', e', q'⟩ := q3
    cases e'
    exact ite_ff ⟨H3, I3, q'⟩
  | true =>
    refine ite_tt (test_link (thn (hc.run pins s3 σ H3 _ I3 q3) fun w' s4 ⟨z', H4, I4, r4, q4⟩ => thn (ho' pins s4 σ H4 y z' u w' _ I4 r2 r4 q4) fun d' s5 ⟨z2, H5, I5, r5, k2, e2, q5⟩ => ?_))
    subst e2
    cases r5
    refine wpAny_truthy_bool ?_
    cases k2 with
    | false =>
      obtain ⟨k', e', q'⟩ := q5
      cases e'
      exact ite_ff ⟨H5, I5, q'⟩
    | true =>
      refine ite_tt (test_last (thn (hd.run pins s5 σ H5 _ I5 q5) fun w2 s6 ⟨z3, H6, I6, r6, q6⟩ => thn (ho'' pins s6 σ H6 z' z3 w' w2 _ I6 r4 r6 q6) fun d2 s7 ⟨z4, H7, I7, r7, k3, e3, q7⟩ => ?_))
      subst e3
      cases r7
      exact wpAny_truthy_bool ⟨H7, I7, q7⟩
def eChain3 (op op' op'' : PyData → PyData → Option PyData) (fa fb fc fd : ED) : ED := fun st => (fa st).bind fun x s => (fb s).bind fun y s' => match op x y with
  | some (.bool true) => (fc s').bind fun z s2 => match op' y z with
    | some (.bool true) => (fd s2).bind fun w s3 => match op'' z w with
      | some (.bool k) => .ok (.bool k) s3
      | _ => .bad
    | some (.bool false) => .ok (.bool false) s2
    | _ => .bad
  | some (.bool false) => .ok (.bool false) s'
  | _ => .bad
theorem chain3_read {op op' op'' : PyData → PyData → Option PyData} {σ : L2.St} {H : Hp} {Q : VK} (h : tD X.K E (eChain3 op op' op'' fa fb fc fd) σ H Q) : tChain3 (rD2 X.K op) (rD2 X.K op') (rD2 X.K op'') (tD X.K E fa) (tD X.K E fb) (tD X.K E fc) (tD X.K E fd) σ H Q := by
  obtain ⟨W, st, R, h⟩ := h
  refine tD_of R (h.then.imp fun x s1 W1 H1 _ R1 X1 h1 v hv => tD_of R1 (h1.then.imp fun y s2 W2 H2 _ R2 X2 h2 u hu => ?_))
  cases e1 : op x y with
  | none => rw [e1] at h2; exact h2.elim
  | some d =>
    rw [e1] at h2
    have hv2 := hv.lat (R1.lat X2)
    refine ⟨W2, x, y, d, hv2, hu, e1, R2.fok, fun z W3 H3 g hz => ?_⟩
    have R3 := g.rel R2
    have h3 := Res.base g.ext h2
    cases d with
    | bool k =>
      cases hz
      refine ⟨k, rfl, ?_⟩
      cases k with
      | false =>
        rw [if_neg Bool.false_ne_true]
        exact h2 W3 H3 R3 g.ext _ (.bl _)
      | true =>
        rw [if_pos rfl]
        refine tD_of R3 (Res.then h3 |>.imp fun z s4 W4 H4 _ R4 X4 h4 w hw => ?_)
        cases e2 : op' y z with
        | none => rw [e2] at h4; exact h4.elim
        | some d2 =>
          rw [e2] at h4
          refine ⟨W4, y, z, d2, (hu.lat g.lat).lat (R3.lat X4), hw, e2, R4.fok, fun q W5 H5 g5 hq => ?_⟩
          have R5 := g5.rel R4
          have h5 := Res.base g5.ext h4
          cases d2 with
          | bool k2 =>
            cases hq
            refine ⟨k2, rfl, ?_⟩
            cases k2 with
            | false =>
              rw [if_neg Bool.false_ne_true]
              exact h4 W5 H5 R5 g5.ext _ (.bl _)
            | true =>
              rw [if_pos rfl]
              refine tD_of R5 (Res.then h5 |>.imp fun t s6 W6 H6 _ R6 X6 h6 w6 hw6 => ?_)
              cases e3 : op'' z t with
              | none => rw [e3] at h6; exact h6.elim
              | some d3 =>
                rw [e3] at h6
                refine ⟨W6, z, t, d3, (hw.lat g5.lat).lat (R5.lat X6), hw6, e3, R6.fok, fun q W7 H7 g7 hq => ?_⟩
                cases d3 with
                | bool k => exact h6 W7 H7 (g7.rel R6) g7.ext q hq
                | _ => exact h6.elim
          | _ => exact h4.elim
    | _ => exact h2.elim
theorem dt_chain3 {q q' q'' : CmpOp} {op op' op'' : PyData → PyData → Option PyData} (ho : OpR X (compareOp q) (rD2 X.K op)) (ho' : OpR X (compareOp q') (rD2 X.K op')) (ho'' : OpR X (compareOp q'') (rD2 X.K op'')) (ha : PE X a (tD X.K E fa)) (hb : PE X b (tD X.K E fb)) (hc : PE X c (tD X.K E fc)) (hd : PE X d (tD X.K E fd))
    (hm : lastMarks [q, q', q''] [b, c, d] = false := by with_unfolding_all rfl) : PT X (.Compare a [q, q', q''] [b, c, d] pos) (tT X.K E (asB (eChain3 op op' op'' fa fb fc fd))) := pt_imp (pt_chain3 ho ho' ho'' ha hb hc hd hm) fun _ _ _ h => chain3_read (asB_read h)
theorem wp_chain3 {op op' op'' : PyData → PyData → Option PyData} {C : PyData → Sta → Prop} {st : Sta} (h : (fa st).wp fun x s => (fb s).wp fun y s' => ∃ k, op x y = some (.bool k) ∧ (k = false → C (.bool false) s') ∧ (k = true → (fc s').wp fun z s2 => ∃ k', op' y z = some (.bool k') ∧ (k' = false → C (.bool false) s2) ∧ (k' = true → (fd s2).wp fun w s3 => ∃ k'', op'' z w = some (.bool k'') ∧ C (.bool k'') s3))) : (eChain3 op op' op'' fa fb fc fd st).wp C := by
  unfold eChain3
  rw [wp_bind]
  refine wp_mono h fun x s z => wp_bind.mpr (wp_mono z fun y s' ⟨k, e, z0, z1⟩ => ?_)
  rw [e]
  cases k with
  | false => exact z0 rfl
  | true =>
    refine wp_bind.mpr (wp_mono (z1 rfl) fun z s2 ⟨k', e', y0, y1⟩ => ?_)
    rw [e']
    cases k' with
    | false => exact y0 rfl
    | true =>
      refine wp_bind.mpr (wp_mono (y1 rfl) fun w s3 ⟨k'', e'', c⟩ => ?_)
      rw [e'']
      exact c
end
end DL
/-! EY: a, b = e1, e2 where the stores are not swapped (a cell among the names). -/
namespace DL
open PySem PySem.Spec PyProof.Rows L2
section
variable {X : Cx} {E : EX} {pos : Pos}
theorem ds_parC (i j : Nat) {x y : Str} {a b : Expr} {p q : Prt} {px py pt : Pos} {kt k2 : Nat} {pt2 : Pos} (hc : X.calm = true) (hN : X.N.Nodup) (ha : PE X a (tP X.K E p)) (hb : PE X b (tP X.K E q)) (gx : PG X (.Name x px) (gName i)) (gy : PG X (.Name y py) (gName j)) (hij : i ≠ j := by decide)
    (hw : swappedStores [.Tuple [.Name x px, .Name y py] kt pt] (.Tuple [a, b] k2 pt2) X.env = pure none := by rfl)
    (hs : swapsWithSole [.Tuple [.Name x px, .Name y py] kt pt] (.Tuple [a, b] k2 pt2) pos.line X.env = pure false := by rfl) (hs1 : starEach [a, b] X.env = (false, eval a X.env) :: starEach [b] X.env := by rfl) (hs2 : starEach [b] X.env = (false, eval b X.env) :: starEach [] X.env := by rfl)
    (hn : (assignEach [.Name x px, .Name y py] X.env).length = 2 := by rfl) (hst : (assignEach [.Name x px, .Name y py] X.env).findIdx? (·.1) = none := by rfl)
    (h1 : (assignEach [.Tuple [.Name x px, .Name y py] kt pt] X.env).map (·.2) = [assign (.Tuple [.Name x px, .Name y py] kt pt) X.env] := by rfl) :
    PS X (.Assign [.Tuple [.Name x px, .Name y py] kt pt] (.Tuple [a, b] k2 pt2) pos) (tS X.K E (sPar2 i j p q)) := by
  refine ps_imp (ps_asg (pe_tup (pa_cons ha (pa_cons hb pa_nil hs2) hs1)) (pg_tup hc (pgs_cons gx (pgs_cons gy pgs_nil)) hn hst) hs hw h1) fun D σ H h => ?_
  obtain ⟨W, st, R, h⟩ := h
  unfold sPar2 at h
  refine tP_of R ?_
  cases e1 : p.ev st with
  | bad => rw [e1] at h; exact h.elim
  | ex c s1 => rw [e1] at h; exact fun W1 H1 R1 X1 => h σ W1 H1 R1 X1
  | ok s s1 =>
    rw [e1] at h
    intro W1 H1 R1 X1 v hv hn1
    refine tP_of R1 ?_
    simp only [Rs.run_ok] at h
    cases e2 : q.ev s1 with
    | bad => rw [e2] at h; exact h.elim
    | ex c s2 => rw [e2] at h; exact fun W2 H2 R2 X2 => h σ W2 H2 R2 (X1.trans X2)
    | ok t s2 =>
      rw [e2] at h
      intro W2 H2 R2 X2 u hu hn2
      refine ⟨by rw [sizeLine_eq]; show 2 ≤ _; decide, fun c hcn => ⟨c, [v, u], rfl, ?_, rfl, ?_⟩⟩
      · exact SqT.of upd_same
      have g := Fok.new (p := c) (o := .tup [v, u]) R2.fok hcn
      have R2' := g.rel R2
      have X2' := X2.trans g.ext
      have hv2 := (hv.ext R1 X2).ext R2 g.ext
      have hu2 := hu.ext R2 g.ext
      have ne : ∀ l m a b, s = .own l → t = .own m → v = .ref a → u = .ref b → a ≠ b := fun l m a b e1 e2 e3 e4 e5 => by
        subst e1 e2 e5
        exact hv.some e3 (hn2 m rfl a e4)
      obtain ⟨R3, X3⟩ := R2'.setS i hv2
      obtain ⟨R4, X4⟩ := R3.setS j (IsS.other R2' (i := i) hv2 hu2 ne)
      refine ⟨v, [u], rfl, u, [], rfl, rfl, ?_⟩
      refine h _ W2 _ R4 (X4 W H st.r σ (X3 W H st.r σ (X1.trans X2') hn1) fun l e a ea => ?_)
      have z := hn2 l e a ea
      cases q : H a with
      | none => rfl
      | some o => exact absurd z (X1.dom a (by rw [q]; simp))
end
end DL
namespace DL
open PySem PySem.Spec PyProof.Rows L2
noncomputable section
def b_is_whole : SD := (sRet (eAnd (eOp1 (isiD "int") (eVar 0)) (eNot (eOp1 (isiD "bool") (eVar 0)))))
def m_is_whole : FD := mkFn 1 1 b_is_whole
def b_is_between : SD := (sRet (eAnd (eCall m_is_whole (eCons (eVar 0) eNil)) (eChain opLe opLe (eVar 1) (eVar 0) (eVar 2))))
def m_is_between : FD := mkFn 3 3 b_is_between
def b_is_row : SD := (sRet (eAnd (eOp1 (isiD "tuple") (eVar 0)) (eChain opLe opLe (eVar 1) (eOpL opLen (eCons (eVar 0) eNil)) (eVar 2))))
def m_is_row : FD := mkFn 3 3 b_is_row
def b_rises : SD := (sRet (eOpL opAll (eCons (eLst (nLc (iZip (eVar 0) (eSl (eVar 0) (oSome (eC (.int 1))) oNone)) (gT 2 (gsCons (gN 1) (gsCons (gN 2) gsNil))) tYs (eOp2 opLt (eVar 1) (eVar 2)) [1, 2])) eNil)))
def m_rises : FD := mkFn 1 3 b_rises
def b_is_menu : SD := (sSeq (sIf (bOr (bNot (asB (eCall m_is_row (eCons (eVar 1) (eCons (eC (.int 1)) (eCons (eVar 0) eNil)))))) (bNot (asB (eOpL opAll (eCons (eLst (nLc (iSeq (eVar 1)) (gN 2) tYs (eCall m_is_between (eCons (eVar 2) (eCons (eC (.int 0)) (eCons (eOp2 opSub (eVar 0) (eC (.int 1))) eNil)))) [2])) eNil))))) (sRet (eC (.bool false))) sNx) (sRet (eCall m_rises (eCons (eVar 1) eNil))))
def m_is_menu : FD := mkFn 2 3 b_is_menu
def b_is_entry : SD := (sSeq (sIf (bOr (bNot (asB (eCall m_is_row (eCons (eVar 1) (eCons (eC (.int 2)) (eCons (eC (.int 2)) eNil)))))) (bNot (asB (eCall m_is_menu (eCons (eVar 0) (eCons (eOp2 opIx (eVar 1) (eC (.int 0))) eNil)))))) (sRet (eC (.bool false))) sNx) (sRet (eAnd (eCall m_is_whole (eCons (eOp2 opIx (eVar 1) (eC (.int 1))) eNil)) (eOp2 opIn (eOp2 opIx (eVar 1) (eC (.int 1))) (eOp2 opIx (eVar 1) (eC (.int 0)))))))
def m_is_entry : FD := mkFn 2 2 b_is_entry
def b_is_record : SD := (sSeq (sIf (bOr (bNot (asB (eCall m_is_row (eCons (eVar 0) (eCons (eC (.int 2)) (eCons (eC (.int 2)) eNil)))))) (bOr (bNot (asB (eCall m_is_between (eCons (eOp2 opIx (eVar 0) (eC (.int 0))) (eCons (eC (.int 1)) (eCons (eC (.int 5)) eNil)))))) (bNot (asB (eOp1 (isiD "tuple") (eOp2 opIx (eVar 0) (eC (.int 1)))))))) (sRet (eC (.bool false))) sNx) (sSeq (sAsg (gT 2 (gsCons (gN 1) (gsCons (gN 2) gsNil))) (eVar 0)) (sRet (eAnd (eOpL opAll (eCons (eLst (nLc (iSeq (eVar 2)) (gN 3) tYs (eCall m_is_entry (eCons (eVar 1) (eCons (eVar 3) eNil))) [3])) eNil)) (eCall m_rises (eCons (eLst (nLc (iSeq (eVar 2)) (gT 2 (gsCons (gN 4) (gsCons (gN 5) gsNil))) tYs (eVar 4) [4, 5])) eNil))))))
def m_is_record : FD := mkFn 1 6 b_is_record
def b_need_record : SD := (sIf (bNot (asB (eCall m_is_record (eCons (eVar 0) eNil)))) sBad sNx)
def m_need_record : FD := mkFn 1 1 b_need_record
def b_all_rankings : SD := (sSeq (sAsg (gN 1) (eLst (nLst (eCons (eTup eNil) eNil)))) (sSeq (sFor (iRg1 (eVar 0)) (gN 2) (sAsg (gN 1) (eLst (nLc2 (iSeq (eVar 1)) (gN 3) tYs (iRg1 (eVar 0)) (gN 4) (asB (eOp2 opNotIn (eVar 4) (eVar 3))) (eTup (eStar (eVar 3) (eCons (eVar 4) eNil))) [3, 4] [4])))) (sRet (eVar 1))))
def m_all_rankings : FD := mkFn 1 5 b_all_rankings
def b_pairs_of : SD := (sSeq (sPar2 1 2 (.n (nLst eNil)) (.d (eOp2 opIx (eVar 0) (eC (.int 1))))) (sSeq (sFor (iEnm (eVar 2)) (gT 2 (gsCons (gN 3) (gsCons (gT 2 (gsCons (gN 4) (gsCons (gN 5) gsNil))) gsNil))) (sFor (iEnm (eSl (eVar 2) oNone (oSome (eVar 3)))) (gT 2 (gsCons (gN 6) (gsCons (gT 2 (gsCons (gN 7) (gsCons (gN 8) gsNil))) gsNil))) (sIf (bAnd (asB (eOp2 opNe (eVar 8) (eVar 5))) (bAnd (asB (eOp2 opIn (eVar 8) (eVar 4))) (asB (eOp2 opIn (eVar 5) (eVar 7))))) (sSeq (sAsg (gN 9) (eTup (eCons (eLst (nLc (iSeq (eVar 7)) (gN 10) (asB (eOp2 opNotIn (eVar 10) (eVar 4))) (eVar 10) [10])) (eCons (eLst (nLc (iSeq (eVar 4)) (gN 10) (asB (eOp2 opNotIn (eVar 10) (eVar 7))) (eVar 10) [10])) eNil)))) (sApp 1 (eTup (eCons (eTup (eCons (eVar 6) (eCons (eVar 3) eNil))) (eCons (eTup (eCons (eVar 8) (eCons (eVar 5) eNil))) (eCons (eVar 9) eNil)))))) sNx))) (sRet (eLst (nOpL opSorted (eCons (eVar 1) eNil))))))
def m_pairs_of : FD := mkFn 1 11 b_pairs_of
def b_is_clash : SD := (sSeq (sAsg (gT 3 (gsCons (gN 2) (gsCons (gN 3) (gsCons (gN 4) gsNil)))) (eVar 0)) (sSeq (sFor (iZip (eVar 3) (eVar 4)) (gT 2 (gsCons (gN 5) (gsCons (gN 6) gsNil))) (sIf (asB (eOpL opAny (eCons (eLst (nLc (iSeq (eVar 6)) (gN 7) tYs (eOp2 opGt (eOp2 opIx (eVar 1) (eVar 7)) (eOp2 opIx (eVar 1) (eVar 5))) [7])) eNil))) (sRet (eC (.bool false))) sNx)) (sRet (eC (.bool true)))))
def m_is_clash : FD := mkFn 2 8 b_is_clash
def b_places_in : SD := (sRet (eLst (nLc (iRg1 (eOpL opLen (eCons (eVar 0) eNil))) (gN 1) tYs (eIdxT (eVar 0) (eVar 1)) [1])))
def m_places_in : FD := mkFn 1 2 b_places_in
def b_clashes_of : SD := (sSeq (sAsg (gN 2) (eCall m_places_in (eCons (eVar 1) eNil))) (sRet (eLst (nLc (iSeq (eVar 0)) (gN 3) (asB (eCall m_is_clash (eCons (eVar 3) (eCons (eVar 2) eNil)))) (eOp2 opIx (eVar 3) (eC (.int 0))) [3]))))
def m_clashes_of : FD := mkFn 2 4 b_clashes_of
def b_rankings_by : GMir := (gSeq (gPl (sAsg (gN 1) (eLst (nLc (iSeq (eVar 0)) (gN 3) tYs (eCall m_pairs_of (eCons (eVar 3) eNil)) [3])))) (gFor (iSeq (eCall m_all_rankings (eCons (eOp2 opIx (eOp2 opIx (eVar 0) (eC (.int 0))) (eC (.int 0))) eNil))) (gN 2) (gIf (asB (eOpL opAll (eCons (eLst (nLc (iSeq (eVar 1)) (gN 4) tYs (eOp2 opEq (eCall m_clashes_of (eCons (eVar 4) (eCons (eVar 2) eNil))) (eLst (nLst eNil))) [4])) eNil))) (gYl (eVar 2)) gNx)))
def m_rankings_by : GD := packG 0 (mkGen 1 5 b_rankings_by)
def b_rankings : GMir := (gSeq (gPl (sDrop (eCall m_need_record (eCons (eVar 0) eNil)))) (gFor (eGen m_rankings_by (eCons (eVar 0) eNil)) (gN 1) (gYl (eVar 1))))
def m_rankings : GD := mkGen 1 2 b_rankings
def b__law_cell_at : SD := (sSeq (sIf (asB (eOp2 opLt (eVar 1) (eOpL opLen (eCons (eVar 0) eNil)))) (sRet (eOp2 opIx (eVar 0) (eVar 1))) sNx) (sRet (eC (.int 0))))
def m__law_cell_at : FD := mkFn 2 2 b__law_cell_at
def b__law_pen : SD := (sRet (eNew (nLst (eCons (eOpL opMax2 (eCons (eC (.int 0)) (eCons (eOp2 opSub (eVar 0) (eOp2 opPow (eC (.int 10)) (eC (.int 18)))) eNil))) (eCons (eOp2 opMod (eVar 0) (eC (.int 1000000007))) (eCons (eC (.int 0)) eNil))))))
def m__law_pen : FD := mkFn 1 1 b__law_pen
def b__law_draw : SD := (sSeq (sIf (asB (eOp2 opGt (eIxR (eVar 0) (eC (.int 0))) (eC (.int 0)))) (sSeq (sAsg (gN 3) (eOp2 opMod (eIxR (eVar 0) (eC (.int 0))) (eVar 1))) (sSeq (sSetR (eVar 0) (eC (.int 0)) (eOp2 opFdiv (eIxR (eVar 0) (eC (.int 0))) (eVar 1))) (sRet (eVar 3)))) sNx) (sSeq (sSetR (eVar 0) (eC (.int 2)) (eOp2 opAdd (eIxR (eVar 0) (eC (.int 2))) (eC (.int 1)))) (sSeq (sAsg (gN 2) (eOp2 opMod (eOp2 opMul (eOp2 opAdd (eIxR (eVar 0) (eC (.int 1))) (eOp2 opMul (eC (.int 17)) (eIxR (eVar 0) (eC (.int 2))))) (eOp2 opAdd (eC (.int 69621)) (eOp2 opMul (eC (.int 2)) (eIxR (eVar 0) (eC (.int 2)))))) (eC (.int 2147483647)))) (sSeq (sAsg (gN 2) (eOp2 opMod (eOp2 opAdd (eOp2 opAdd (eOp2 opMul (eVar 2) (eVar 2)) (eOp2 opMul (eC (.int 40503)) (eIxR (eVar 0) (eC (.int 2))))) (eC (.int 5))) (eC (.int 2147483629)))) (sRet (eOp2 opMod (eOp2 opFdiv (eOp2 opMod (eOp2 opMul (eVar 2) (eC (.int 48271))) (eC (.int 2147483647))) (eC (.int 32))) (eVar 1)))))))
def m__law_draw : FD := mkFn 2 4 b__law_draw
def b__law_menus : SD := (sSeq (sAsg (gN 1) (eLst (nLst (eCons (eTup eNil) eNil)))) (sSeq (sFor (iRg1 (eVar 0)) (gN 2) (sAsg (gN 1) (eOp2 opAdd (eVar 1) (eLst (nLc (iSeq (eVar 1)) (gN 3) tYs (eOp2 opAdd (eVar 3) (eTup (eCons (eVar 2) eNil))) [3]))))) (sRet (eSl (eLst (nOpL opSorted (eCons (eVar 1) eNil))) (oSome (eC (.int 1))) oNone))))
def m__law_menus : FD := mkFn 1 4 b__law_menus
def b__law_less : SD := (sRet (eOpL opTuple (eCons (eLst (nLc (iSeq (eVar 0)) (gN 2) (asB (eOp2 opNe (eVar 2) (eVar 1))) (eVar 2) [2])) eNil)))
def m__law_less : FD := mkFn 2 3 b__law_less
def b__law_pick : SD := (sRet (eOp2 opIx (eLst (nLc (iSeq (eVar 0)) (gN 2) (asB (eOp2 opIn (eVar 2) (eVar 1))) (eVar 2) [2])) (eC (.int 0))))
def m__law_pick : FD := mkFn 2 3 b__law_pick
def b__law_orders : SD := (sSeq (sAsg (gN 1) (eLst (nLst (eCons (eTup eNil) eNil)))) (sSeq (sFor (iRg1 (eVar 0)) (gN 2) (sSeq (sAsg (gN 3) (eLst (nLst eNil))) (sSeq (sFor (iSeq (eVar 1)) (gN 4) (sAsg (gN 3) (eOp2 opAdd (eVar 3) (eLst (nLc (iRg1 (eVar 0)) (gN 5) (asB (eOp2 opNotIn (eVar 5) (eVar 4))) (eOp2 opAdd (eVar 4) (eTup (eCons (eVar 5) eNil))) [5]))))) (sAsg (gN 1) (eVar 3))))) (sRet (eVar 1))))
def m__law_orders : FD := mkFn 1 6 b__law_orders
def b__law_parts : SD := (sSeq (sAsg (gN 1) (eLst (nLst (eCons (eTup eNil) eNil)))) (sSeq (sFor (iSeq (eVar 0)) (gN 2) (sAsg (gN 1) (eOp2 opAdd (eVar 1) (eLst (nLc (iSeq (eVar 1)) (gN 3) tYs (eOp2 opAdd (eVar 3) (eTup (eCons (eVar 2) eNil))) [3]))))) (sRet (eSl (eVar 1) (oSome (eC (.int 1))) oNone))))
def m__law_parts : FD := mkFn 1 4 b__law_parts
def b__law_steady_ones : SD := (sSeq (sAsg (gN 1) (eCall m__law_menus (eCons (eVar 0) eNil))) (sSeq (sAsg (gN 2) (eLst (nOpL opSorted (eCons (eLst (nLc (iSeq (eVar 1)) (gN 6) tYs (eTup (eCons (eOpL opLen (eCons (eVar 6) eNil)) (eCons (eVar 6) eNil))) [6])) eNil)))) (sSeq (sAsg (gN 3) (eLst (nLst (eCons (eLst (nLst eNil)) eNil)))) (sSeq (sFor (iRg1 (eOpL opLen (eCons (eVar 2) eNil))) (gN 4) (sSeq (sPar2 6 7 (.d (eOp2 opIx (eOp2 opIx (eVar 2) (eVar 4)) (eC (.int 1)))) (.n (nLst eNil))) (sSeq (sFor (iSeq (eVar 3)) (gN 5) (sFor (iSeq (eCall m__law_parts (eCons (eVar 6) eNil))) (gN 8) (sSeq (sAsg (gN 9) (eLst (nLc (iSeq (eVar 6)) (gN 10) (asB (eOp2 opNotIn (eVar 10) (eVar 8))) (eIdxL (eVar 2) (eTup (eCons (eOp2 opSub (eOpL opLen (eCons (eVar 6) eNil)) (eC (.int 1))) (eCons (eCall m__law_less (eCons (eVar 6) (eCons (eVar 10) eNil))) eNil)))) [10]))) (sIf (asB (eOpL opAll (eCons (eLst (nLc (iSeq (eVar 9)) (gN 11) tYs (eOp2 opEq (eOp2 opIx (eVar 5) (eVar 11)) (eVar 8)) [11])) eNil))) (sApp 7 (eOp2 opAdd (eVar 5) (eLst (nLst (eCons (eVar 8) eNil))))) sNx)))) (sAsg (gN 3) (eVar 7))))) (sRet (eLst (nLc (iSeq (eVar 3)) (gN 5) tYs (eLst (nLc (iSeq (eVar 1)) (gN 6) tYs (eOp2 opIx (eVar 5) (eIdxL (eVar 2) (eTup (eCons (eOpL opLen (eCons (eVar 6) eNil)) (eCons (eVar 6) eNil))))) [6])) [5])))))))
def m__law_steady_ones : FD := mkFn 1 12 b__law_steady_ones
def b__law_any_record : SD := (sSeq (sOwn 2 (nLst eNil)) (sSeq (sFor (iSeq (eCall m__law_menus (eCons (eVar 1) eNil))) (gN 3) (sSeq (sAsg (gN 4) (eCall m__law_draw (eCons (eVar 0) (eCons (eOp2 opAdd (eOpL opLen (eCons (eVar 3) eNil)) (eC (.int 1))) eNil)))) (sIf (asB (eOp2 opGt (eVar 4) (eC (.int 0)))) (sApp 2 (eTup (eCons (eVar 3) (eCons (eOp2 opIx (eVar 3) (eOp2 opSub (eVar 4) (eC (.int 1)))) eNil)))) sNx))) (sRet (eTup (eCons (eVar 1) (eCons (eOpL opTuple (eCons (eVar 2) eNil)) eNil))))))
def m__law_any_record : FD := mkFn 2 5 b__law_any_record
def b_law : SD := (sSeq (sFor (iRg1 (eOpL opMax2 (eCons (eC (.int 1)) (eCons (eOpL opMin2 (eCons (eOpL opLen (eCons (eVar 0) eNil)) (eCons (eC (.int 3)) eNil))) eNil)))) (gN 1) (sSeq (sAsg (gN 2) (eCall m__law_pen (eCons (eCall m__law_cell_at (eCons (eVar 0) (eCons (eVar 1) eNil))) eNil))) (sSeq (sAsg (gN 3) (eOp2 opSub (eC (.int 3)) (eOp2 opMul (eOp2 opFdiv (eCall m__law_draw (eCons (eVar 2) (eCons (eC (.int 4)) eNil))) (eC (.int 2))) (eCall m__law_draw (eCons (eVar 2) (eCons (eC (.int 3)) eNil)))))) (sSeq (sAsg (gT 2 (gsCons (gN 5) (gsCons (gN 6) gsNil))) (eTup (eCons (eCall m__law_steady_ones (eCons (eVar 3) eNil)) (eCons (eCall m__law_menus (eCons (eVar 3) eNil)) eNil)))) (sFor (iRg1 (eC (.int 3))) (gN 4) (sSeq (sPar2 10 11 (.d (eCall m__law_any_record (eCons (eVar 2) (eCons (eVar 3) eNil)))) (.n (nLst eNil))) (sSeq (sAsg (gN 7) (eLst (nLc (iSeq (eOp2 opIx (eVar 10) (eC (.int 1)))) (gN 12) tYs (eIdxL (eVar 6) (eOp2 opIx (eVar 12) (eC (.int 0)))) [12]))) (sSeq (sAsg (gN 8) (eLst (nLc (iSeq (eOp2 opIx (eVar 10) (eC (.int 1)))) (gN 12) tYs (eOp2 opIx (eVar 12) (eC (.int 1))) [12]))) (sSeq (sFor (iSeq (eCall m__law_orders (eCons (eVar 3) eNil))) (gN 9) (sIf (asB (eOpL opAny (eCons (eLst (nLc (iSeq (eVar 5)) (gN 13) tYs (eOp2 opEq (eLst (nLc (iSeq (eVar 7)) (gN 14) tYs (eCall m__law_pick (eCons (eVar 9) (eCons (eOp2 opIx (eVar 13) (eVar 14)) eNil))) [14])) (eVar 8)) [13])) eNil))) (sApp 11 (eVar 9)) sNx)) (sIf (asB (eOp2 opNe (eLst (nGen (eGen m_rankings (eCons (eVar 10) eNil)))) (eVar 11))) (sRet (eC (.bool false))) sNx)))))))))) (sRet (eC (.bool true))))
def m_law : FD := mkFn 1 15 b_law
end
end DL
namespace DL
open PySem PySem.Spec PyProof.Rows L2 PySem.W PySem.SeqAt
/-! ### common words -/
abbrev tupI (l : List Int) : PyData := .tuple (l.map .int)
@[simp] theorem isi_int_int {i : Int} : isiD "int" (.int i) = some (.bool true) := rfl
@[simp] theorem isi_bool_int {i : Int} : isiD "bool" (.int i) = some (.bool false) := rfl
@[simp] theorem isi_tup_tup {l : List PyData} : isiD "tuple" (.tuple l) = some (.bool true) := rfl
@[simp] theorem opLe_int {i j : Int} : opLe (.int i) (.int j) = some (.bool (decide (i ≤ j))) := rfl
@[simp] theorem opGt_int {i j : Int} : opGt (.int i) (.int j) = some (.bool (decide (i > j))) := rfl
@[simp] theorem opGe_int {i j : Int} : opGe (.int i) (.int j) = some (.bool (decide (i ≥ j))) := rfl
@[simp] theorem opLt_int {i j : Int} : opLt (.int i) (.int j) = some (.bool (decide (i < j))) := rfl
@[simp] theorem opAdd_int {i j : Int} : opAdd (.int i) (.int j) = some (.int (i + j)) := rfl
@[simp] theorem opSub_int {i j : Int} : opSub (.int i) (.int j) = some (.int (i - j)) := rfl
@[simp] theorem opLen_tup {l : List PyData} : opLen [.tuple l] = some (.int l.length) := rfl
@[simp] theorem opLen_list {l : List PyData} : opLen [.list l] = some (.int l.length) := rfl
@[simp] theorem items_tup {l : List PyData} : itemsOf (.tuple l) = some l := rfl
@[simp] theorem items_list {l : List PyData} : itemsOf (.list l) = some l := rfl
theorem bools_map : ∀ l : List Bool, boolsOf (l.map .bool) = some l
  | [] => rfl
  | b :: l => by rw [List.map_cons]; unfold boolsOf; rw [bools_map l]; rfl
@[simp] theorem opAll_bools {α : Type} {l : List α} {p : α → Bool} : opAll [.list (l.map fun a => PyData.bool (p a))] = some (.bool (l.all p)) := by
  have e : l.map (fun a => PyData.bool (p a)) = (l.map p).map PyData.bool := by rw [List.map_map]; rfl
  rw [e]; unfold opAll; dsimp only; rw [bools_map]; simp [List.all_map]
@[simp] theorem opAny_bools {α : Type} {l : List α} {p : α → Bool} : opAny [.list (l.map fun a => PyData.bool (p a))] = some (.bool (l.any p)) := by
  have e : l.map (fun a => PyData.bool (p a)) = (l.map p).map PyData.bool := by rw [List.map_map]; rfl
  rw [e]; unfold opAny; dsimp only; rw [bools_map]; simp [List.any_map]
theorem ints_of (l : List Int) : intsOf (l.map .int) = some l := by
  induction l with
  | nil => rfl
  | cons i l ih => rw [List.map_cons]; unfold intsOf; rw [ih]; rfl
@[simp] theorem opLt_tup {l m : List Int} : opLt (.tuple (l.map .int)) (.tuple (m.map .int)) = some (.bool (HT.lexLt l m)) := by
  unfold opLt; dsimp only; rw [ints_of, ints_of]
@[simp] theorem shp_int {i : Int} : shp (.int i) = true := rfl
@[simp] theorem eqv_int {i j : Int} : PyData.eqv (.int i) (.int j) = (i == j) := rfl
@[simp] theorem opEq_int {i j : Int} : opEq (.int i) (.int j) = some (.bool (i == j)) := rfl
@[simp] theorem opNe_int {i j : Int} : opNe (.int i) (.int j) = some (.bool (!(i == j))) := rfl
theorem any_eqv (l : List Int) (i : Int) : (l.map PyData.int).any (fun z => PyData.eqv z (.int i)) = decide (i ∈ l) := by
  induction l with
  | nil => rfl
  | cons j l ih =>
    rw [List.map_cons, List.any_cons, ih]
    simp only [eqv_int, List.mem_cons]
    by_cases h : i = j
    · subst h; simp
    · have : (j == i) = false := beq_eq_false_iff_ne.mpr (Ne.symm h)
      rw [this]; simp [h]
theorem flat_ints (l : List Int) : (l.map PyData.int).all flatD = true := by simp [List.all_map, flatD]
theorem inD_tup {i : Int} {l : List Int} : inD (.int i) (.tuple (l.map .int)) = some (decide (i ∈ l)) := by
  unfold inD
  simp only [itemsOf, Option.bind_some, flat_ints, Bool.and_true]
  rw [if_pos (by rfl), any_eqv]
theorem inD_list {i : Int} {l : List Int} : inD (.int i) (.list (l.map .int)) = some (decide (i ∈ l)) := by
  unfold inD
  simp only [itemsOf, Option.bind_some, flat_ints, Bool.and_true]
  rw [if_pos (by rfl), any_eqv]
@[simp] theorem opIn_tup {i : Int} {l : List Int} : opIn (.int i) (.tuple (l.map .int)) = some (.bool (decide (i ∈ l))) := by unfold opIn; rw [inD_tup]; rfl
@[simp] theorem opIn_list {i : Int} {l : List Int} : opIn (.int i) (.list (l.map .int)) = some (.bool (decide (i ∈ l))) := by unfold opIn; rw [inD_list]; rfl
@[simp] theorem opNotIn_tup {i : Int} {l : List Int} : opNotIn (.int i) (.tuple (l.map .int)) = some (.bool (!decide (i ∈ l))) := by unfold opNotIn; rw [inD_tup]; rfl
@[simp] theorem opNotIn_list {i : Int} {l : List Int} : opNotIn (.int i) (.list (l.map .int)) = some (.bool (!decide (i ∈ l))) := by unfold opNotIn; rw [inD_list]; rfl
theorem ix_nat {l : List PyData} {n : Nat} {d : PyData} (h : l[n]? = some d) : atI l (n : Int) = some d := atI_nat (j := n) h
@[simp] theorem opIx_tup {l : List PyData} {i : Int} : opIx (.tuple l) (.int i) = atI l i := rfl
@[simp] theorem opIx_list {l : List PyData} {i : Int} : opIx (.list l) (.int i) = atI l i := rfl
@[simp] theorem atI_0 {α : Type} {a : α} {l : List α} : atI (a :: l) 0 = some a := atI_nat (j := 0) rfl
@[simp] theorem atI_1 {α : Type} {a b : α} {l : List α} : atI (a :: b :: l) 1 = some b := atI_nat (j := 1) rfl
@[simp] theorem atI_2 {α : Type} {a b c : α} {l : List α} : atI (a :: b :: c :: l) 2 = some c := atI_nat (j := 2) rfl
@[simp] theorem sl_tup {l : List PyData} {a b : Option Int} : slD (.tuple l) a b = some (.tuple (cutD l a b)) := rfl
@[simp] theorem sl_list {l : List PyData} {a b : Option Int} : slD (.list l) a b = some (.list (cutD l a b)) := rfl
theorem cut_1 (l : List PyData) : cutD l (some 1) none = l.drop 1 := by
  unfold cutD
  rw [show HT.sIx l.length 0 (some 1) = min 1 l.length from HT.sIx_nat l.length 0 1, HT.sIx_none]
  cases l with
  | nil => rfl
  | cons x r => simp
theorem cut_to (l : List PyData) (n : Nat) : cutD l none (some (n : Int)) = l.take n := by
  unfold cutD
  rw [HT.sIx_nat, HT.sIx_none]
  simp only [Nat.sub_zero, List.drop_zero]
  rcases Nat.le_total n l.length with h | h
  · rw [Nat.min_eq_left h]
  · rw [Nat.min_eq_right h, List.take_length, List.take_of_length_le h]
@[simp] theorem cut_0 (l : List PyData) : cutD l (some 1) none = l.drop 1 := cut_1 l
@[simp] theorem wipeS_at {r : List Slot} {S : List So} {vs : List Nat} : wipeS vs ⟨r, S⟩ = ⟨wipeR r vs, S⟩ := rfl
@[simp] theorem wipeR_nil {r : List Slot} : wipeR r [] = r := rfl
@[simp] theorem wipeR_cons {r : List Slot} {v : Nat} {vs : List Nat} : wipeR r (v :: vs) = (wipeR r vs).set v .non := rfl
@[simp] theorem tYs_at {st : Sta} : tYs st = .ok true st := rfl
/-! ### the defs -/
theorem is_whole_int {i : Int} {S : List So} : m_is_whole [.int i] S = .ok (.bool true) S := by
  rw [← wpf_eq]
  simp [m_is_whole, wp_fn, b_is_whole]
theorem is_between_int {i a b : Int} {S : List So} : m_is_between [.int i, .int a, .int b] S = .ok (.bool (decide (a ≤ i) && decide (i ≤ b))) S := by
  rw [← wpf_eq]
  by_cases h : a ≤ i
  · simp [m_is_between, wp_fn, b_is_between, is_whole_int, h]
  · simp [m_is_between, wp_fn, b_is_between, is_whole_int, h]
theorem is_row_tup {l : List PyData} {a b : Int} {S : List So} : m_is_row [.tuple l, .int a, .int b] S = .ok (.bool (decide (a ≤ l.length) && decide ((l.length : Int) ≤ b))) S := by
  rw [← wpf_eq]
  by_cases h : a ≤ l.length
  · simp [m_is_row, wp_fn, b_is_row, h]
  · simp [m_is_row, wp_fn, b_is_row, h]
/-- each less than the next -/
def stepUp (lt : PyData → PyData → Bool) : List PyData → Bool
  | x :: y :: r => lt x y && stepUp lt (y :: r)
  | _ => true
theorem zip_next : ∀ (l : List PyData) (d : PyData), d ∈ zipD l (l.drop 1) → ∃ x y, d = .tuple [x, y] ∧ x ∈ l ∧ y ∈ l
  | [], d, h => by cases h
  | [x], d, h => by cases h
  | x :: y :: r, d, h => by
    rcases List.mem_cons.mp (show d ∈ .tuple [x, y] :: zipD (y :: r) ((y :: r).drop 1) from h) with e | h
    · exact ⟨x, y, e, by simp, by simp⟩
    · obtain ⟨a, b, e, ha, hb⟩ := zip_next (y :: r) d h
      exact ⟨a, b, e, List.mem_cons_of_mem _ ha, List.mem_cons_of_mem _ hb⟩
/-- a pair's two, by a relation -/
def onTwo (lt : PyData → PyData → Bool) : PyData → Bool
  | .tuple [x, y] => lt x y
  | _ => false
theorem zip_all (lt : PyData → PyData → Bool) : ∀ l : List PyData, (zipD l (l.drop 1)).all (onTwo lt) = stepUp lt l
  | [] => rfl
  | [x] => rfl
  | x :: y :: r => by
    have ih := zip_all lt (y :: r)
    show (onTwo lt (.tuple [x, y]) && (zipD (y :: r) ((y :: r).drop 1)).all (onTwo lt)) = (lt x y && stepUp lt (y :: r))
    rw [ih]; rfl
theorem rises_row (lt : PyData → PyData → Bool) {l : List PyData} {d : PyData} {S : List So} (hd : itemsOf d = some l) (hs : slD d (some 1) none = some (.tuple (l.drop 1)) ∨ slD d (some 1) none = some (.list (l.drop 1))) (h : ∀ x ∈ l, ∀ y ∈ l, opLt x y = some (.bool (lt x y))) :
    m_rises [d] S = .ok (.bool (stepUp lt l)) S := by
  rw [← wpf_eq]
  simp only [m_rises]
  rw [wp_fn (by rfl)]
  simp only [b_rises, wp_ret, wp_opL, wp_cons, wp_nil, wp_lst]
  refine wp_lcP (fun _ => true) (fun d => .bool (onTwo lt d)) ?_
  rcases hs with hs | hs <;>
  · simp [hd, hs, ← zip_all]
    refine fun q hq => ?_
    obtain ⟨x, y, rfl, hx, hy⟩ := zip_next l q (by simpa using hq)
    simp [h x hx y hy, onTwo]
theorem stepUp_of {lt : PyData → PyData → Bool} : ∀ {l : List PyData}, l.Pairwise (fun x y => lt x y = true) → stepUp lt l = true
  | [], _ => rfl
  | [x], _ => rfl
  | x :: y :: r, h => by
    obtain ⟨h1, h2⟩ := List.pairwise_cons.mp h
    show (lt x y && stepUp lt (y :: r)) = true
    rw [h1 y List.mem_cons_self, stepUp_of h2]; rfl
structure MenuOk (n : Int) (l : List Int) : Prop where
  ne : l ≠ []
  len : (l.length : Int) ≤ n
  rg : ∀ x ∈ l, 0 ≤ x ∧ x < n
  up : l.Pairwise (· < ·)
/-- two numbers, by < -/
def ltI : PyData → PyData → Bool
  | .int i, .int j => decide (i < j)
  | _, _ => false
theorem rises_ints {l : List Int} {S : List So} (h : l.Pairwise (· < ·)) : m_rises [tupI l] S = .ok (.bool true) S := by
  rw [rises_row ltI (l := l.map .int) rfl (.inl (by simp)) fun x hx y hy => ?_, stepUp_of]
  · rw [List.pairwise_map]
    exact h.imp fun q => by simpa [ltI] using q
  · obtain ⟨i, _, rfl⟩ := List.mem_map.mp hx
    obtain ⟨j, _, rfl⟩ := List.mem_map.mp hy
    rfl
theorem is_menu_ok {n : Int} {l : List Int} {S : List So} (h : MenuOk n l) : m_is_menu [.int n, tupI l] S = .ok (.bool true) S := by
  have h1 : (1 : Int) ≤ l.length := by
    cases l with
    | nil => exact absurd rfl h.ne
    | cons x r => simp; omega
  rw [← wpf_eq]
  simp [m_is_menu, wp_fn, b_is_menu, is_row_tup, h1, h.len]
  refine wp_lcP (fun _ => true) (fun d => .bool true) ?_
  simp [rises_ints h.up]
  intro x hx
  obtain ⟨a, b⟩ := h.rg x hx
  simp [is_between_int]
  omega
theorem is_entry_ok {n p : Int} {l : List Int} {S : List So} (h : MenuOk n l) (hp : p ∈ l) : m_is_entry [.int n, .tuple [tupI l, .int p]] S = .ok (.bool true) S := by
  rw [← wpf_eq]
  simp [m_is_entry, wp_fn, b_is_entry, is_row_tup, is_menu_ok h, is_whole_int, hp]
abbrev entD (e : List Int × Int) : PyData := .tuple [tupI e.1, .int e.2]
abbrev recD (n : Int) (es : List (List Int × Int)) : PyData := .tuple [.int n, .tuple (es.map entD)]
structure RecOk (n : Int) (es : List (List Int × Int)) : Prop where
  n1 : 1 ≤ n
  n5 : n ≤ 5
  ent : ∀ e ∈ es, MenuOk n e.1 ∧ e.2 ∈ e.1
  up : es.Pairwise fun a b => HT.lexLt a.1 b.1 = true
/-- two menus, by < -/
def ltT : PyData → PyData → Bool
  | .tuple a, .tuple b => match intsOf a, intsOf b with
    | some l, some m => HT.lexLt l m
    | _, _ => false
  | _, _ => false
theorem rises_menus {ms : List (List Int)} {S : List So} (h : ms.Pairwise fun a b => HT.lexLt a b = true) : m_rises [.list (ms.map tupI)] S = .ok (.bool true) S := by
  rw [rises_row ltT (l := ms.map tupI) rfl (.inr (by simp)) fun x hx y hy => ?_, stepUp_of]
  · rw [List.pairwise_map]
    refine h.imp fun {a b} q => ?_
    unfold ltT; dsimp only; rw [ints_of, ints_of]; exact q
  · obtain ⟨i, _, rfl⟩ := List.mem_map.mp hx
    obtain ⟨j, _, rfl⟩ := List.mem_map.mp hy
    rw [opLt_tup]
    unfold ltT; dsimp only; rw [ints_of, ints_of]
theorem is_record_ok {n : Int} {es : List (List Int × Int)} {S : List So} (h : RecOk n es) : m_is_record [recD n es] S = .ok (.bool true) S := by
  rw [← wpf_eq]
  simp [m_is_record, wp_fn, b_is_record, is_row_tup, is_between_int, h.n1, h.n5]
  refine wp_lcP (fun _ => true) (fun d => .bool true) ?_
  simp only [wp_iSeq, eVar_at, List.getElem?_cons_succ, List.getElem?_cons_zero, wp_ok, items_tup, Option.some.injEq, exists_eq_left']
  refine ⟨fun d hd => ?_, ?_⟩
  · obtain ⟨e, he, rfl⟩ := List.mem_map.mp hd
    obtain ⟨a, b⟩ := h.ent _ he
    simp [is_entry_ok a b]
  simp
  refine wp_lcP (fun _ => true) (fun d => match d with | .tuple [m, _] => m | d => d) ?_
  simp only [wp_iSeq, eVar_at, List.getElem?_cons_succ, List.getElem?_cons_zero, wp_ok, items_tup, Option.some.injEq, exists_eq_left']
  refine ⟨fun d hd => ?_, ?_⟩
  · obtain ⟨e, he, rfl⟩ := List.mem_map.mp hd
    simp
  · have e := rises_menus (S := S) (ms := es.map (·.1)) (by rw [List.pairwise_map]; exact h.up)
    rw [List.map_map] at e
    have q : (List.map entD es).filter (fun _ => true) = List.map entD es := by simp
    rw [q, List.map_map]
    exact wpf_eq.mpr e
theorem need_record_ok {n : Int} {es : List (List Int × Int)} {S : List So} (h : RecOk n es) : m_need_record [recD n es] S = .ok .none S := by
  rw [← wpf_eq]
  simp [m_need_record, wp_fn, b_need_record, is_record_ok h]
/-! ### sorting -/
theorem srt_perm {ys zs : List PyData} (p : ys.Perm zs) (s : zs.Pairwise fun a b => dataLt a b = true) : srt ys = zs := by
  have tot : TotalLe (dataLe false (id : PyData → PyData)) := sortLe_total _ _ _
  have le_of : ∀ a b : PyData, dataLe false id a b = !dataLt b a := fun a b => rfl
  have ir : ∀ a b : PyData, dataLt a b = true → dataLt b a = false := fun a b h => by
    cases q : dataLt b a with
    | false => rfl
    | true =>
      have z : dataLe false id a b = false := by rw [le_of, q]; rfl
      rcases tot.total a b with w | w
      · rw [z] at w; cases w
      · rw [le_of, h] at w; cases w
  refine (sort_unique tot (s.imp fun {a b} h => by rw [le_of, ir a b h]; rfl) fun c => ?_).symm
  have pf : (ys.filter (sameRank (dataLe false id) c)).Perm (zs.filter (sameRank (dataLe false id) c)) := p.filter _
  have one : (zs.filter (sameRank (dataLe false id) c)).length ≤ 1 := by
    have sf := s.filter (sameRank (dataLe false id) c)
    cases e : zs.filter (sameRank (dataLe false id) c) with
    | nil => simp
    | cons a r =>
      cases r with
      | nil => simp
      | cons b r =>
        exfalso
        rw [e] at sf
        have hab := (List.pairwise_cons.mp sf).1 b List.mem_cons_self
        have ha : a ∈ zs.filter (sameRank (dataLe false id) c) := by rw [e]; exact List.mem_cons_self
        have hb : b ∈ zs.filter (sameRank (dataLe false id) c) := by rw [e]; exact List.mem_cons_of_mem _ List.mem_cons_self
        have ra := (List.mem_filter.mp ha).2
        have rb := (List.mem_filter.mp hb).2
        unfold sameRank at ra rb
        rw [Bool.and_eq_true] at ra rb
        have t := tot.trans b c a rb.2 ra.1
        rw [le_of, hab] at t
        cases t
  match e : ys.filter (sameRank (dataLe false id) c), e' : zs.filter (sameRank (dataLe false id) c) with
  | [], [] => rfl
  | [a], [b] => rw [e, e'] at pf; rw [List.perm_singleton.mp pf]
  | l, m =>
    rw [e, e'] at pf
    rw [e'] at one
    match l, m, pf, one with
    | l, [], pf, _ => rw [List.Perm.eq_nil pf]
    | l, [b], pf, _ => rw [List.perm_singleton.mp pf]
    | _, _ :: _ :: _, _, one => simp at one
/-! ### laid data -/
/-- no dict, no odd text, at most k deep -/
def lay (k : Nat) (d : PyData) : Prop := d.canLay0 = true ∧ d.depth ≤ k
theorem lay_int {k : Nat} {i : Int} : lay k (.int i) := ⟨rfl, Nat.zero_le _⟩
theorem lay_none {k : Nat} : lay k .none := ⟨rfl, Nat.zero_le _⟩
theorem lay_bool {k : Nat} {b : Bool} : lay k (.bool b) := ⟨rfl, Nat.zero_le _⟩
theorem lay_alls {k : Nat} : ∀ {l : List PyData}, (∀ d ∈ l, lay k d) → PyData.canLayAll0 l = true ∧ PyData.depthAll l ≤ k
  | [], _ => ⟨rfl, Nat.zero_le _⟩
  | d :: l, h => by
    obtain ⟨a, b⟩ := h d List.mem_cons_self
    obtain ⟨a', b'⟩ := lay_alls fun e he => h e (List.mem_cons_of_mem _ he)
    refine ⟨?_, ?_⟩
    · unfold PyData.canLayAll0; rw [a, a']; rfl
    · unfold PyData.depthAll; omega
theorem lay_tup {k : Nat} {l : List PyData} (h : ∀ d ∈ l, lay k d) : lay (k + 1) (.tuple l) := by
  obtain ⟨a, b⟩ := lay_alls h
  exact ⟨by unfold PyData.canLay0; exact a, by unfold PyData.depth; omega⟩
theorem lay_list {k : Nat} {l : List PyData} (h : ∀ d ∈ l, lay k d) : lay (k + 1) (.list l) := by
  obtain ⟨a, b⟩ := lay_alls h
  exact ⟨by unfold PyData.canLay0; exact a, by unfold PyData.depth; omega⟩
theorem lay_mono {j k : Nat} {d : PyData} (h : lay j d) (q : j ≤ k) : lay k d := ⟨h.1, Nat.le_trans h.2 q⟩
theorem lay_tupI {k : Nat} {l : List Int} : lay (k + 1) (tupI l) := lay_tup fun d hd => by obtain ⟨i, _, rfl⟩ := List.mem_map.mp hd; exact lay_int
theorem lay_listI {k : Nat} {l : List Int} : lay (k + 1) (.list (l.map .int)) := lay_list fun d hd => by obtain ⟨i, _, rfl⟩ := List.mem_map.mp hd; exact lay_int
theorem lay_shp {k : Nat} {d : PyData} (h : lay k d) (hk : k ≤ 64) : shp d = true := by
  show (d.canLay0 && decide (d.depth ≤ 64)) = true
  rw [h.1, Bool.true_and, decide_eq_true_eq]
  exact Nat.le_trans h.2 hk
theorem eqD_same {k : Nat} {d : PyData} (h : lay k d) (hk : k ≤ 64) : eqD d d = some true := by
  cases d with
  | str x => simp [eqD]
  | _ => simp only [eqD]; rw [lay_shp h hk, eqv_refl _ h.1]; rfl
theorem opEq_same {k : Nat} {d : PyData} (h : lay k d) (hk : k ≤ 64) : opEq d d = some (.bool true) := by unfold opEq; rw [eqD_same h hk]; rfl
theorem opNe_same {k : Nat} {d : PyData} (h : lay k d) (hk : k ≤ 64) : opNe d d = some (.bool false) := by unfold opNe; rw [eqD_same h hk]; rfl
theorem opEq_str {x y : Str} : opEq (.str x) (.str y) = some (.bool (decide (x = y))) := rfl
theorem opNe_str {x y : Str} : opNe (.str x) (.str y) = some (.bool (!decide (x = y))) := rfl
theorem sortOk_of {k : Nat} {l : List PyData} (h : ∀ d ∈ l, lay k d) (hk : k ≤ 60) (al : ∀ a ∈ l, ∀ b ∈ l, alike a b = true) (ks : sortKinds l = true) : sortOk l = true := by
  unfold sortOk
  rw [ks, Bool.and_true, Bool.and_eq_true, List.all_eq_true, List.all_eq_true]
  refine ⟨fun d hd => ?_, fun a ha => List.all_eq_true.mpr fun b hb => al a ha b hb⟩
  rw [(h d hd).1, Bool.true_and, decide_eq_true_eq]
  exact Nat.le_trans (h d hd).2 hk
theorem sorted_ints {l m : List Int} (p : l.Perm m) (s : m.Pairwise (· < ·)) : opSorted [.list (l.map .int)] = some (m.map .int) ∧ opSorted [.tuple (l.map .int)] = some (m.map .int) := by
  have ok : sortOk (l.map .int) = true := sortOk_of (k := 0) (fun d hd => by obtain ⟨i, _, rfl⟩ := List.mem_map.mp hd; exact lay_int) (by decide)
    (fun a ha b hb => by obtain ⟨i, _, rfl⟩ := List.mem_map.mp ha; obtain ⟨j, _, rfl⟩ := List.mem_map.mp hb; rfl)
    (by unfold sortKinds; have : (l.map PyData.int).all notTN = true := by simp [List.all_map, notTN]
        rw [this]; simp)
  have e : srt (l.map .int) = m.map .int := srt_perm (p.map _) (by rw [List.pairwise_map]; exact s.imp fun h => by rw [dataLt_int, decide_eq_true_eq]; exact h)
  constructor <;> (unfold opSorted; simp [itemsOf, ok, e])
/-! ### orders -/
/-- 0 .. n-1 -/
def upTo (n : Nat) : List Int := (List.range n).map fun (i : Nat) => (i : Int)
theorem rg_0 (n : Nat) : rgD 0 (n : Int) = (upTo n).map .int := by
  unfold rgD upTo
  rw [List.map_map]
  simp
theorem upTo_up (n : Nat) : (upTo n).Pairwise (· < ·) := by
  unfold upTo
  rw [List.pairwise_map]
  exact List.pairwise_lt_range.imp fun h => by omega
theorem upTo_len (n : Nat) : (upTo n).length = n := by simp [upTo]
theorem upTo_mem {n : Nat} {i : Int} : i ∈ upTo n ↔ 0 ≤ i ∧ i < n := by
  unfold upTo
  simp only [List.mem_map, List.mem_range]
  constructor
  · rintro ⟨a, h, rfl⟩; omega
  · rintro ⟨h1, h2⟩; exact ⟨i.toNat, by omega, by omega⟩
/-- an order of 0 .. n-1 -/
def OrdOk (n : Nat) (l : List Int) : Prop := l.Perm (upTo n)
/-! ### cells, pens, draws -/
theorem cell_at {ns : List Int} {k : Int} {S : List So} (hk : 0 ≤ k) : ∃ c : Int, m__law_cell_at [scr ns, .int k] S = .ok (.int c) S := by
  have hl : opLen [scr ns] = some (.int ns.length) := by show some (PyData.int ((ns.map PyData.int).length : Nat)) = _; rw [List.length_map]
  by_cases h : k < ns.length
  · have hx : (ns.map PyData.int)[k.toNat]? = some (.int ns[k.toNat]) := by rw [List.getElem?_map, List.getElem?_eq_getElem (by omega)]; rfl
    refine ⟨ns[k.toNat], ?_⟩
    rw [← wpf_eq]
    simp [m__law_cell_at, wp_fn, b__law_cell_at, hl, h]
    show atI (ns.map PyData.int) k = _
    have q := ix_nat hx
    rw [show ((k.toNat : Nat) : Int) = k by omega] at q
    exact q
  · refine ⟨0, ?_⟩
    rw [← wpf_eq]
    simp [m__law_cell_at, wp_fn, b__law_cell_at, hl, h]
/-- a pen in the store, at most c turns old -/
def Pen (S : List So) (n c : Nat) : Prop := ∃ a b k : Int, S[n]? = some (.lst [.int a, .int b, .int k]) ∧ 0 ≤ a ∧ 0 ≤ b ∧ b < 1000000007 ∧ 0 ≤ k ∧ k ≤ c
/-- nothing else has changed -/
def Else (S S' : List So) (n : Nat) : Prop := S'.length = S.length ∧ ∀ j, j ≠ n → S'[j]? = S[j]?
theorem Else.refl {S : List So} {n : Nat} : Else S S n := ⟨rfl, fun _ _ => rfl⟩
theorem Else.trans {S S1 S2 : List So} {n : Nat} (a : Else S S1 n) (b : Else S1 S2 n) : Else S S2 n := ⟨b.1.trans a.1, fun j h => (b.2 j h).trans (a.2 j h)⟩
theorem Pen.mono {S : List So} {n c d : Nat} (h : Pen S n c) (q : c ≤ d) : Pen S n d := by
  obtain ⟨a, b, k, e, h1, h2, h3, h4, h5⟩ := h
  exact ⟨a, b, k, e, h1, h2, h3, h4, by omega⟩
theorem pen_new {c : Int} {S : List So} : ∃ S', m__law_pen [.int c] S = .ok (rf S.length) S' ∧ Pen S' S.length 0 ∧ S'.length = S.length + 1 ∧ ∀ j, j < S.length → S'[j]? = S[j]? := by
  have hp : opPow (.int 10) (.int 18) = some (.int 1000000000000000000) := rfl
  refine ⟨S ++ [.lst [.int (if c - 1000000000000000000 > 0 then c - 1000000000000000000 else 0), .int (c % 1000000007), .int 0]], ?_, ⟨_, _, _, List.getElem?_concat_length, ?_, ?_, ?_, ?_, ?_⟩, by simp, fun j hj => List.getElem?_append_left hj⟩
  · rw [← wpf_eq]
    simp [m__law_pen, wp_fn, b__law_pen, hp]
    simp [opMax2, opMod]
  · split <;> omega
  · omega
  · omega
  · omega
  · omega
theorem stoL_pen {r : List Slot} {S : List So} {n : Nat} {l : List PyData} (h : S[n]? = some (.lst l)) : stoL ⟨r, S⟩ (rf n) = some (n, l) := by
  unfold stoL rf
  simp [h]
theorem opMod_pos {i j : Int} (h : 0 < j) : opMod (.int i) (.int j) = some (.int (i % j)) := by unfold opMod; simp [h]
theorem opFdiv_pos {i j : Int} (h : 0 < j) (h2 : j < 1073741824) : opFdiv (.int i) (.int j) = some (.int (i / j)) := by unfold opFdiv; simp [h, h2]
theorem opMul_r {i j : Int} (h : -18446744073709551616 < j) (h2 : j < 18446744073709551616) : opMul (.int i) (.int j) = some (.int (i * j)) := by unfold opMul mulOk; simp [h, h2]
theorem opMul_l {i j : Int} (h : -18446744073709551616 < i) (h2 : i < 18446744073709551616) : opMul (.int i) (.int j) = some (.int (i * j)) := by unfold opMul mulOk; simp [h, h2]
theorem draw_wp {S : List So} {n c : Nat} {many : Int} {C : PyData → List So → Prop} (h : Pen S n c) (hc : c < 1000000000) (hm : 1 ≤ many) (hm2 : many < 1073741824)
    (k : ∀ v S', 0 ≤ v → v < many → Pen S' n (c + 1) → Else S S' n → C (.int v) S') : (m__law_draw [rf n, .int many] S).wp C := by
  obtain ⟨a, b, t, e, h1, h2, h3, h4, h5⟩ := h
  have hn : n < S.length := (List.getElem?_eq_some_iff.mp e).1
  have up : ∀ (S1 : List So) (x : So) (j : Nat), j ≠ n → (S1.set n x)[j]? = S1[j]? := fun S1 x j hj => List.getElem?_set_ne (Ne.symm hj)
  simp only [m__law_draw]
  rw [wp_fn (by rfl)]
  by_cases ha : a > 0
  · simp [b__law_draw, stoL_pen e, ha, opMod_pos (show 0 < many by omega), opFdiv_pos (show 0 < many by omega) hm2]
    refine ⟨0, rfl, ?_⟩
    refine k _ _ (Int.emod_nonneg _ (by omega)) (Int.emod_lt_of_pos _ (by omega)) ⟨a / many, b, t, by simp [hn], Int.ediv_nonneg h1 (by omega), h2, h3, h4, by omega⟩ ⟨by simp, up _ _⟩
  · simp [b__law_draw, stoL_pen e, ha]
    refine ⟨2, rfl, ?_⟩
    have e2 : (S.set n (.lst [.int a, .int b, .int (t + 1)]))[n]? = some (.lst [.int a, .int b, .int (t + 1)]) := by simp [hn]
    simp [stoL_pen e2]
    rw [opMul_l (by decide) (by decide)]
    simp
    rw [opMul_l (by decide) (by decide)]
    simp
    rw [opMul_r (by omega) (by omega)]
    simp
    rw [opMod_pos (by decide)]
    simp
    generalize hx : (b + 17 * (t + 1)) * (69621 + 2 * (t + 1)) % 2147483647 = x
    have x0 : 0 ≤ x := by rw [← hx]; exact Int.emod_nonneg _ (by decide)
    have x1 : x < 2147483647 := by rw [← hx]; exact Int.emod_lt_of_pos _ (by decide)
    rw [opMul_r (by omega) (by omega)]
    simp
    rw [opMul_l (by decide) (by decide)]
    simp
    rw [opMod_pos (by decide)]
    simp
    rw [opMul_r (by decide) (by decide)]
    simp
    rw [opMod_pos (by decide)]
    simp
    rw [opFdiv_pos (by decide) (by decide)]
    simp
    rw [opMod_pos (by omega)]
    simp
    exact k _ _ (Int.emod_nonneg _ (by omega)) (Int.emod_lt_of_pos _ (by omega)) ⟨a, b, t + 1, e2, h1, h2, h3, by omega, by omega⟩ ⟨by simp, up _ _⟩
/-! ### menus -/
/-- the subsets of 0 .. n-1, as they are made -/
def allS : Nat → List (List Int)
  | 0 => [[]]
  | n + 1 => allS n ++ (allS n).map (· ++ [(n : Int)])
/-- the non-empty ones of k things from lo on, ascending -/
def subs : Nat → Int → List (List Int)
  | 0, _ => []
  | k + 1, lo => [lo] :: ((subs k (lo + 1)).map (lo :: ·) ++ subs k (lo + 1))
abbrev menus (n : Nat) : List (List Int) := subs n 0
theorem menus_perm {n : Nat} (h : n ≤ 5) : (allS n).Perm ([] :: menus n) := by
  match n, h with
  | 0, _ => decide +kernel
  | 1, _ => decide +kernel
  | 2, _ => decide +kernel
  | 3, _ => decide +kernel
  | 4, _ => decide +kernel
  | 5, _ => decide +kernel
theorem menus_lt {n : Nat} (h : n ≤ 5) : ([] :: menus n).Pairwise (fun a b => decide (a < b) = true) := by
  match n, h with
  | 0, _ => decide +kernel
  | 1, _ => decide +kernel
  | 2, _ => decide +kernel
  | 3, _ => decide +kernel
  | 4, _ => decide +kernel
  | 5, _ => decide +kernel
theorem menus_up {n : Nat} (h : n ≤ 5) : (menus n).Pairwise (fun a b => HT.lexLt a b = true) := by
  match n, h with
  | 0, _ => decide +kernel
  | 1, _ => decide +kernel
  | 2, _ => decide +kernel
  | 3, _ => decide +kernel
  | 4, _ => decide +kernel
  | 5, _ => decide +kernel
theorem menus_ok {n : Nat} (h : n ≤ 5) : ∀ m ∈ menus n, MenuOk n m := by
  have key : ∀ m ∈ menus n, m ≠ [] ∧ (m.length : Int) ≤ n ∧ (∀ x ∈ m, 0 ≤ x ∧ x < (n : Int)) ∧ m.Pairwise (· < ·) := by
    match n, h with
    | 0, _ => decide +kernel
    | 1, _ => decide +kernel
    | 2, _ => decide +kernel
    | 3, _ => decide +kernel
    | 4, _ => decide +kernel
    | 5, _ => decide +kernel
  exact fun m hm => ⟨(key m hm).1, (key m hm).2.1, (key m hm).2.2.1, (key m hm).2.2.2⟩
theorem menus_len {n : Nat} (h : n ≤ 5) : (menus n).length ≤ 31 := by
  match n, h with
  | 0, _ => decide +kernel
  | 1, _ => decide +kernel
  | 2, _ => decide +kernel
  | 3, _ => decide +kernel
  | 4, _ => decide +kernel
  | 5, _ => decide +kernel
theorem allS_len {n : Nat} (h : n ≤ 5) : (allS n).length ≤ 32 ∧ ∀ m ∈ allS n, m.length ≤ 5 := by
  match n, h with
  | 0, _ => decide +kernel
  | 1, _ => decide +kernel
  | 2, _ => decide +kernel
  | 3, _ => decide +kernel
  | 4, _ => decide +kernel
  | 5, _ => decide +kernel
theorem alike_int : ∀ a b : List Int, alikeAll (a.map .int) (b.map .int) = true
  | [], _ => by unfold alikeAll; rfl
  | _ :: _, [] => by rw [List.map_cons, List.map_nil]; unfold alikeAll; rfl
  | x :: a, y :: b => by rw [List.map_cons, List.map_cons]; unfold alikeAll; rw [alike_int a b]; rfl
theorem alike_tupI (a b : List Int) : alike (tupI a) (tupI b) = true := by unfold alike; exact alike_int a b
theorem lt_tupI (a b : List Int) : dataLt (tupI a) (tupI b) = decide (a < b) := by rw [dataLt_tuple]; exact dataLt_ints a b
theorem allS_head (n : Nat) : ∃ r, allS n = [] :: r := by
  induction n with
  | zero => exact ⟨[], rfl⟩
  | succ n ih =>
    obtain ⟨r, e⟩ := ih
    refine ⟨r ++ ([] :: r).map (· ++ [(n : Int)]), ?_⟩
    unfold allS
    rw [e]; rfl
theorem sorted_all {n : Nat} (h : n ≤ 5) : opSorted [.list ((allS n).map tupI)] = some (([] :: menus n).map tupI) := by
  have ok : sortOk ((allS n).map tupI) = true := sortOk_of (k := 1) (fun d hd => by obtain ⟨i, _, rfl⟩ := List.mem_map.mp hd; exact lay_tupI) (by decide)
    (fun a ha b hb => by obtain ⟨i, _, rfl⟩ := List.mem_map.mp ha; obtain ⟨j, _, rfl⟩ := List.mem_map.mp hb; exact alike_tupI i j)
    (by
      obtain ⟨r, e⟩ := allS_head n
      unfold sortKinds
      rw [e]
      have : ((([] : List Int) :: r).map tupI).all isTup = true := by simp [List.all_map, isTup]
      rw [this]; simp; exact .inr rfl)
  have e : srt ((allS n).map tupI) = ([] :: menus n).map tupI := srt_perm ((menus_perm h).map _) (by rw [List.pairwise_map]; exact (menus_lt h).imp fun {a b} h => by rw [lt_tupI]; exact h)
  unfold opSorted; simp [itemsOf, ok, e]
theorem rg_get {n i : Nat} {d : PyData} (h : (rgD 0 (n : Int))[i]? = some d) : d = .int i ∧ i < n := by
  rw [rg_0, List.getElem?_map] at h
  unfold upTo at h
  rw [List.getElem?_map] at h
  by_cases q : i < n
  · rw [List.getElem?_range q] at h
    exact ⟨(Option.some.inj h).symm, q⟩
  · rw [List.getElem?_eq_none (by simp; omega)] at h
    cases h
theorem rg_len (n : Nat) : (rgD 0 (n : Int)).length = n := by rw [rg_0, List.length_map, upTo_len]
theorem law_menus_ok {n : Nat} {S : List So} (h : n ≤ 5) : m__law_menus [.int n] S = .ok (.list ((menus n).map tupI)) S := by
  rw [← wpf_eq]
  simp [m__law_menus, wp_fn, b__law_menus]
  refine wp_for ?_
  simp
  refine ⟨by omega, forD_wp (fun i s => i ≤ n ∧ ∃ a b, s = ⟨[.val (.int n), .val (.list ((allS i).map tupI)), a, b], S⟩) (fun i d s hd => ?_) ?_ ⟨Nat.zero_le _, _, _, rfl⟩⟩
  · rintro ⟨hi, a, b, rfl⟩
    obtain ⟨rfl, hi⟩ := rg_get hd
    simp
    refine wp_lcP (fun _ => true) (fun d => match d with | .tuple l => .tuple (l ++ [.int i]) | d => d) ?_
    have hl := allS_len (show i ≤ 5 by omega)
    simp only [wp_iSeq, eVar_at, List.getElem?_cons_succ, List.getElem?_cons_zero, wp_ok, items_list, Option.some.injEq, exists_eq_left']
    refine ⟨fun d hd => ?_, ?_⟩
    · obtain ⟨l, hl', rfl⟩ := List.mem_map.mp hd
      have := hl.2 l hl'
      have e : opAdd (tupI l) (.tuple [.int i]) = some (.tuple (l.map .int ++ [.int i])) := by
        unfold opAdd tupI
        simp
        omega
      simp [e]
    · have q : ((allS i).map tupI).filter (fun _ => true) = (allS i).map tupI := by simp
      have e : opAdd (.list ((allS i).map tupI)) (.list (((allS i).map tupI).map (fun d => match d with | .tuple l => .tuple (l ++ [.int i]) | d => d))) = some (.list ((allS (i + 1)).map tupI)) := by
        have e1 : allS (i + 1) = allS i ++ (allS i).map (· ++ [(i : Int)]) := rfl
        rw [e1]
        unfold opAdd
        simp only [List.length_map]
        rw [if_pos (by omega), List.map_append, List.map_map, List.map_map]
        congr 3
        refine List.map_congr_left fun l _ => ?_
        simp [tupI]
      rw [q]
      simp only [wp_ok, e, Option.some.injEq, exists_eq_left', List.set_cons_succ, List.set_cons_zero, gN_at]
      exact ⟨hi, ⟨_, _, rfl⟩, trivial⟩
  · rintro s ⟨_, a, b, rfl⟩
    rw [rg_len]
    simp [sorted_all h]
/-! ### drawn orders -/
@[simp] theorem opTuple_list {l : List PyData} : opTuple [.list l] = some (.tuple l) := rfl
theorem erase_map {α β : Type} (f : α → β) : ∀ (l : List α) (i : Nat), (l.map f).eraseIdx i = (l.eraseIdx i).map f
  | [], _ => rfl
  | _ :: _, 0 => rfl
  | x :: l, i + 1 => by rw [List.map_cons, List.eraseIdx_cons_succ, List.eraseIdx_cons_succ, List.map_cons, erase_map f l i]
theorem perm_erase {α : Type} : ∀ (l : List α) (i : Nat) (h : i < l.length), (l[i] :: l.eraseIdx i).Perm l
  | [], _, h => by simp at h
  | _ :: _, 0, _ => .refl _
  | x :: l, i + 1, h => by
    rw [List.eraseIdx_cons_succ, List.getElem_cons_succ]
    exact (List.Perm.swap _ _ _).trans (.cons _ (perm_erase l i (by simpa using h)))
/-! ### ways to notice -/
abbrev wayD (hid ord : List Int) (k : Int) : PyData := .list [.list (hid.map .int), tupI ord, .int k]
/-- ascending -/
def sortZ (l : List Int) : List Int := l.mergeSort (fun a b => decide (a ≤ b))
theorem sortZ_perm (l : List Int) : (sortZ l).Perm l := List.mergeSort_perm l _
theorem sortZ_up {l : List Int} (h : l.Nodup) : (sortZ l).Pairwise (· < ·) := by
  have s : (sortZ l).Pairwise (fun a b => decide (a ≤ b) = true) := List.pairwise_mergeSort (fun a b c h1 h2 => by simp at *; omega) (fun a b => by simp; omega) l
  have nd : (sortZ l).Nodup := (sortZ_perm l).nodup_iff.mpr h
  exact (s.and nd).imp fun {a b} ⟨h1, h2⟩ => by simp at h1; omega
theorem sorted_Z {l : List Int} (h : l.Nodup) : opSorted [.list (l.map .int)] = some ((sortZ l).map .int) := (sorted_ints (sortZ_perm l).symm (sortZ_up h)).1
/-- what is noticed in a menu -/
def noticedF (hid ord : List Int) (k : Int) (m : List Int) : List Int :=
  if k % 2 = 0 then sortZ ((ord.filter (fun x => decide (x ∈ m))).take k.toNat)
  else if m.filter (fun x => !decide (x ∈ hid)) = [] then m else m.filter (fun x => !decide (x ∈ hid))
theorem eqv_nil (l : List PyData) : PyData.eqv (.list l) (.list []) = l.isEmpty := by
  cases l <;> simp [PyData.eqv, PyData.eqvAll]
theorem eqD_nil {k : Nat} {l : List PyData} (h : lay k (.list l)) (hk : k ≤ 64) : eqD (.list l) (.list []) = some l.isEmpty := by
  simp only [eqD]
  rw [lay_shp h hk, eqv_nil]; rfl
theorem opEq_nil {k : Nat} {l : List PyData} (h : lay k (.list l)) (hk : k ≤ 64) : opEq (.list l) (.list []) = some (.bool l.isEmpty) := by unfold opEq; rw [eqD_nil h hk]; rfl
theorem opNe_nil {k : Nat} {l : List PyData} (h : lay k (.list l)) (hk : k ≤ 64) : opNe (.list l) (.list []) = some (.bool (!l.isEmpty)) := by unfold opNe; rw [eqD_nil h hk]; rfl
theorem fil_ints {l : List Int} {p : PyData → Bool} {q : Int → Bool} (h : ∀ x, p (.int x) = q x) : ((l.map .int).filter p).map id = (l.filter q).map .int := by
  rw [List.map_id, List.filter_map]
  congr 2
  funext x
  exact h x
/-- a number's test, over data -/
def onI (q : Int → Bool) : PyData → Bool
  | .int i => q i
  | _ => false
theorem fil_on {l : List Int} {q : Int → Bool} : ((l.map PyData.int).filter (onI q)).map id = (l.filter q).map .int := fil_ints fun _ => rfl
theorem OrdOk.nodup {n : Nat} {l : List Int} (h : OrdOk n l) : l.Nodup := h.nodup_iff.mpr ((upTo_up n).imp fun h => by omega)
/-! ### picks -/
theorem law_pick_ok {rk th : List Int} {S : List So} {x : Int} {r : List Int} (h : rk.filter (fun y => decide (y ∈ th)) = x :: r) : m__law_pick [tupI rk, tupI th] S = .ok (.int x) S := by
  rw [← wpf_eq]
  simp [m__law_pick, wp_fn, b__law_pick]
  refine wp_lcP (onI fun y => decide (y ∈ th)) id ?_
  simp only [wp_iSeq, eVar_at, List.getElem?_cons_succ, List.getElem?_cons_zero, wp_ok, items_tup, Option.some.injEq, exists_eq_left']
  refine ⟨fun d hd => ?_, ?_⟩
  · obtain ⟨y, _, rfl⟩ := List.mem_map.mp hd
    simp [onI]
  rw [fil_on, h]
  simp
theorem noticed_sub {n : Nat} {hid ord m : List Int} {k : Int} (ho : OrdOk n ord) (h : MenuOk n m) (h1 : 1 ≤ k) : noticedF hid ord k m ≠ [] ∧ ∀ x ∈ noticedF hid ord k m, x ∈ m := by
  obtain ⟨x, r, e⟩ := List.exists_cons_of_ne_nil h.ne
  have hx : x ∈ m := by rw [e]; exact List.mem_cons_self
  unfold noticedF
  split
  · have hxo : x ∈ ord.filter (fun x => decide (x ∈ m)) := List.mem_filter.mpr ⟨ho.mem_iff.mpr (upTo_mem.mpr (h.rg x hx)), by simpa using hx⟩
    refine ⟨fun z => ?_, fun y hy => ?_⟩
    · have q := (sortZ_perm ((ord.filter (fun x => decide (x ∈ m))).take k.toNat)).length_eq
      rw [z, List.length_nil, List.length_take] at q
      have := List.length_pos_of_mem hxo
      omega
    · have q := (sortZ_perm _).mem_iff.mp hy
      have q2 := List.mem_of_mem_take q
      simpa using (List.mem_filter.mp q2).2
  · split
    · exact ⟨h.ne, fun _ h => h⟩
    · rename_i z
      exact ⟨z, fun y hy => (List.mem_filter.mp hy).1⟩
theorem pick_there {n : Nat} {hid ord rk m : List Int} {k : Int} (hr : OrdOk n rk) (ho : OrdOk n ord) (h : MenuOk n m) (h1 : 1 ≤ k) : ∃ x r, rk.filter (fun y => decide (y ∈ noticedF hid ord k m)) = x :: r ∧ x ∈ m := by
  obtain ⟨a, b⟩ := noticed_sub (hid := hid) ho h h1
  obtain ⟨y, t, e⟩ := List.exists_cons_of_ne_nil a
  have hy : y ∈ noticedF hid ord k m := by rw [e]; exact List.mem_cons_self
  have hyr : y ∈ rk.filter (fun y => decide (y ∈ noticedF hid ord k m)) := List.mem_filter.mpr ⟨hr.mem_iff.mpr (upTo_mem.mpr (h.rg y (b y hy))), by simpa using hy⟩
  obtain ⟨x, r, e2⟩ := List.exists_cons_of_ne_nil (List.ne_nil_of_mem hyr)
  have hx : x ∈ rk.filter (fun y => decide (y ∈ noticedF hid ord k m)) := by rw [e2]; exact List.mem_cons_self
  exact ⟨x, r, e2, b x (by simpa using (List.mem_filter.mp hx).2)⟩
/-! ### drawn records -/
theorem rec_of {n : Nat} {es : List (List Int × Int)} (n1 : 1 ≤ n) (n5 : n ≤ 5) (sub : (es.map (·.1)).Sublist (menus n)) (ent : ∀ e ∈ es, e.2 ∈ e.1) : RecOk n es :=
  ⟨by omega, by omega, fun e he => ⟨menus_ok n5 _ (sub.subset (List.mem_map.mpr ⟨e, he, rfl⟩)), ent e he⟩, by
    have h := (menus_up n5).sublist sub
    rw [List.pairwise_map] at h
    exact h⟩
/-! ### repr of small data -/
/-- at most k deep, its text at most m long -/
structure Rep (k m : Nat) (d : PyData) : Prop where
  lay : lay k d
  sh : d.showable = true
  len : d.shown.length ≤ m
theorem Rep.mono {k m k' m' : Nat} {d : PyData} (h : Rep k m d) (h1 : k ≤ k') (h2 : m ≤ m') : Rep k' m' d := ⟨lay_mono h.lay h1, h.sh, Nat.le_trans h.len h2⟩
theorem rep_int {i : Int} (h : i.natAbs < 1000000000000000000) : Rep 0 20 (.int i) := by
  refine ⟨lay_int, ?_, ?_⟩
  · unfold PyData.showable
    rw [decide_eq_true_eq]
    by_cases z : i.natAbs = 0
    · rw [z]; decide
    · refine (Nat.log2_lt z).mpr (Nat.lt_of_lt_of_le h ?_)
      exact Nat.le_trans (show 1000000000000000000 ≤ 2 ^ 60 by decide) (Nat.pow_le_pow_right (by decide) (by decide))
  · have := int_text_length_le10 (a := i) (k := 18) (by decide) (by simpa using h)
    show (Str.ofString (toString i)).length ≤ 20
    rw [PySem.ofString_length]
    omega
theorem rep_none : Rep 0 20 .none := ⟨lay_none, rfl, by show (Str.ofString "None").length ≤ 20; decide +kernel⟩
theorem rep_bool {b : Bool} : Rep 0 20 (.bool b) := ⟨lay_bool, rfl, by cases b <;> (show (Str.ofString _).length ≤ 20) <;> decide +kernel⟩
theorem rep_alls {k m : Nat} : ∀ {l : List PyData}, (∀ d ∈ l, Rep k m d) → PyData.showableAll l = true ∧ ((PyData.shownAll l).map (·.length)).sum ≤ m * l.length ∧ (PyData.shownAll l).length = l.length
  | [], _ => ⟨rfl, by simp [PyData.shownAll], rfl⟩
  | d :: l, h => by
    obtain ⟨a, b, c⟩ := rep_alls fun e he => h e (List.mem_cons_of_mem _ he)
    have r := h d List.mem_cons_self
    refine ⟨?_, ?_, ?_⟩
    · unfold PyData.showableAll; rw [r.sh, a]; rfl
    · unfold PyData.shownAll
      rw [List.map_cons, List.sum_cons, List.length_cons, Nat.mul_succ]
      have := r.len
      omega
    · unfold PyData.shownAll
      rw [List.length_cons, List.length_cons, c]
theorem rep_list {k m n : Nat} {l : List PyData} (h : ∀ d ∈ l, Rep k m d) (hn : l.length ≤ n) : Rep (k + 1) ((m + 2) * n + 3) (.list l) := by
  obtain ⟨a, b, c⟩ := rep_alls h
  refine ⟨lay_list fun d hd => (h d hd).lay, by unfold PyData.showable; exact a, ?_⟩
  have q := listText_len_le (PyData.shownAll l)
  rw [c] at q
  have e : (PyData.list l).shown = listText (PyData.shownAll l) := by simp only [PyData.shown]
  rw [e]
  have : (m + 2) * l.length ≤ (m + 2) * n := Nat.mul_le_mul_left _ hn
  have e2 : (m + 2) * l.length = m * l.length + 2 * l.length := Nat.add_mul _ _ _
  omega
theorem rep_tup {k m n : Nat} {l : List PyData} (h : ∀ d ∈ l, Rep k m d) (hn : l.length ≤ n) : Rep (k + 1) ((m + 2) * n + 3) (.tuple l) := by
  obtain ⟨a, b, c⟩ := rep_alls h
  refine ⟨lay_tup fun d hd => (h d hd).lay, by unfold PyData.showable; exact a, ?_⟩
  have q := tupleText_len_le (PyData.shownAll l)
  rw [c] at q
  have e : (PyData.tuple l).shown = tupleText (PyData.shownAll l) := by simp only [PyData.shown]
  rw [e]
  have : (m + 2) * l.length ≤ (m + 2) * n := Nat.mul_le_mul_left _ hn
  have e2 : (m + 2) * l.length = m * l.length + 2 * l.length := Nat.add_mul _ _ _
  omega
theorem repr_ok {k m : Nat} {d : PyData} (h : Rep k m d) (hk : k ≤ 60) (hm : m ≤ 16777216) : opRepr [d] = some (.str d.shown) := by
  unfold opRepr
  dsimp only
  have h1 := h.lay.2
  have h2 := h.len
  rw [h.lay.1, h.sh]
  simp only [Bool.true_and, Bool.and_eq_true, decide_eq_true_eq]
  rw [if_pos ⟨by omega, by omega⟩]
theorem rep_tupI {l : List Int} {n : Nat} (h : ∀ x ∈ l, x.natAbs < 1000000000000000000) (hn : l.length ≤ n) : Rep 1 (22 * n + 3) (tupI l) :=
  rep_tup (k := 0) (m := 20) (fun d hd => by obtain ⟨i, hi, rfl⟩ := List.mem_map.mp hd; exact rep_int (h i hi)) (by rw [List.length_map]; exact hn)
theorem rep_rec {n : Nat} {es : List (List Int × Int)} (n5 : n ≤ 5) (sub : (es.map (·.1)).Sublist (menus n)) (ent : ∀ e ∈ es, e.2 ∈ e.1) : Rep 4 100000 (recD n es) := by
  have small : ∀ e ∈ es, e.1.length ≤ 5 ∧ (∀ x ∈ e.1, x.natAbs < 1000000000000000000) := fun e he => by
    have m := menus_ok n5 e.1 (sub.subset (List.mem_map.mpr ⟨e, he, rfl⟩))
    refine ⟨by have := m.len; omega, fun x hx => ?_⟩
    have := m.rg x hx
    omega
  have r1 : ∀ d ∈ es.map entD, Rep 2 233 d := fun d hd => by
    obtain ⟨e, he, rfl⟩ := List.mem_map.mp hd
    obtain ⟨s1, s2⟩ := small e he
    refine rep_tup (k := 1) (m := 113) (n := 2) (fun d hd => ?_) (by simp)
    simp only [List.mem_cons, List.not_mem_nil, or_false] at hd
    rcases hd with rfl | rfl
    · exact rep_tupI s2 s1
    · exact (rep_int (s2 _ (ent e he))).mono (by decide) (by decide)
  have el : es.length ≤ 31 := by
    have := sub.length_le
    have := menus_len n5
    rw [List.length_map] at *
    omega
  have r2 : Rep 3 7288 (.tuple (es.map entD)) := rep_tup (k := 2) (m := 233) (n := 31) r1 (by rw [List.length_map]; exact el)
  refine (rep_tup (k := 3) (m := 7288) (n := 2) (fun d hd => ?_) (by simp)).mono (by decide) (by decide)
  simp only [List.mem_cons, List.not_mem_nil, or_false] at hd
  rcases hd with rfl | rfl
  · exact (rep_int (by omega)).mono (by decide) (by decide)
  · exact r2
/-! ### pairs of entries -/
abbrev Ent := List Int × Int
def ev (es : List Ent) (i : Nat) : Ent := es.getD i ([], 0)
theorem ev_at {es : List Ent} {i : Nat} {e : Ent} (h : es[i]? = some e) : ev es i = e := by unfold ev; rw [List.getD_eq_getElem?_getD, h]; rfl
def meetB (a b : Ent) : Bool := !(a.2 == b.2) && (decide (a.2 ∈ b.1) && decide (b.2 ∈ a.1))
def onlyIn (a b : List Int) : List Int := a.filter fun x => !decide (x ∈ b)
def condB (es : List Ent) (p : Nat × Nat) : Bool := meetB (ev es p.1) (ev es p.2)
def dPair (es : List Ent) (p : Nat × Nat) : PyData := .tuple [.tuple [.int p.1, .int p.2], .tuple [.int (ev es p.1).2, .int (ev es p.2).2],
  .tuple [.list ((onlyIn (ev es p.1).1 (ev es p.2).1).map .int), .list ((onlyIn (ev es p.2).1 (ev es p.1).1).map .int)]]
/-- as they are met -/
def pP : Nat → List (Nat × Nat)
  | 0 => []
  | j + 1 => pP j ++ (List.range j).map fun i => (i, j)
/-- ascending -/
def pQ (n : Nat) : List (Nat × Nat) := (List.range n).flatMap fun i => ((List.range n).filter fun j => decide (i < j)).map fun j => (i, j)
def lexP (a b : Nat × Nat) : Prop := a.1 < b.1 ∨ (a.1 = b.1 ∧ a.2 < b.2)
theorem pP_mem {n : Nat} {p : Nat × Nat} : p ∈ pP n ↔ p.1 < p.2 ∧ p.2 < n := by
  induction n with
  | zero => simp [pP]
  | succ n ih =>
    obtain ⟨i, j⟩ := p
    simp only [pP, List.mem_append, ih, List.mem_map, List.mem_range, Prod.mk.injEq]
    constructor
    · rintro (⟨h1, h2⟩ | ⟨a, h1, rfl, rfl⟩)
      · exact ⟨h1, by omega⟩
      · exact ⟨h1, by omega⟩
    · rintro ⟨h1, h2⟩
      by_cases z : j = n
      · exact .inr ⟨i, by omega, rfl, z.symm⟩
      · exact .inl ⟨h1, by omega⟩
theorem pQ_mem {n : Nat} {p : Nat × Nat} : p ∈ pQ n ↔ p.1 < p.2 ∧ p.2 < n := by
  obtain ⟨i, j⟩ := p
  simp only [pQ, List.mem_flatMap, List.mem_range, List.mem_map, List.mem_filter, decide_eq_true_eq, Prod.mk.injEq]
  constructor
  · rintro ⟨a, h1, b, ⟨h2, h3⟩, rfl, rfl⟩; exact ⟨h3, h2⟩
  · rintro ⟨h1, h2⟩; exact ⟨i, by omega, j, ⟨h2, h1⟩, rfl, rfl⟩
theorem pQ_up (n : Nat) : (pQ n).Pairwise lexP := by
  unfold pQ
  rw [List.pairwise_flatMap]
  refine ⟨fun i _ => ?_, ?_⟩
  · rw [List.pairwise_map]
    exact (List.pairwise_lt_range.filter _).imp fun h => .inr ⟨rfl, h⟩
  · refine List.pairwise_lt_range.imp fun {a b} h x hx y hy => ?_
    obtain ⟨_, _, rfl⟩ := List.mem_map.mp hx
    obtain ⟨_, _, rfl⟩ := List.mem_map.mp hy
    exact .inl h
theorem pQ_nodup (n : Nat) : (pQ n).Nodup := (pQ_up n).imp fun {a b} h e => by subst e; unfold lexP at h; omega
theorem pP_nodup (n : Nat) : (pP n).Nodup := by
  induction n with
  | zero => exact List.nodup_nil
  | succ n ih =>
    refine List.nodup_append.mpr ⟨ih, ?_, fun a ha b hb e => ?_⟩
    · unfold List.Nodup
      rw [List.pairwise_map]
      exact List.nodup_range.imp fun h e => h (Prod.mk.inj e).1
    · subst e
      obtain ⟨_, _, rfl⟩ := List.mem_map.mp hb
      have := (pP_mem.mp ha).2
      simp at this
theorem pP_perm (n : Nat) : (pP n).Perm (pQ n) := (List.perm_ext_iff_of_nodup (pP_nodup n) (pQ_nodup n)).mpr fun p => pP_mem.trans pQ_mem.symm
theorem pP_len (n : Nat) : (pP n).length ≤ n * n := by
  induction n with
  | zero => simp [pP]
  | succ n ih =>
    simp only [pP, List.length_append, List.length_map, List.length_range]
    have : (n + 1) * (n + 1) = n * n + n + n + 1 := by rw [Nat.succ_mul, Nat.mul_succ]; omega
    omega
theorem enum_get : ∀ (l : List PyData) (k i : Nat) (d : PyData), (enumD k l)[i]? = some d → ∃ x, l[i]? = some x ∧ d = .tuple [.int ((k + i : Nat) : Int), x]
  | [], _, _, _, h => by simp [enumD] at h
  | x :: l, k, 0, d, h => ⟨x, rfl, by simp [enumD] at h; exact h.symm⟩
  | x :: l, k, i + 1, d, h => by
    obtain ⟨y, h1, h2⟩ := enum_get l (k + 1) i d (by simpa [enumD] using h)
    exact ⟨y, h1, by rw [h2]; congr 3; omega⟩
theorem enum_len : ∀ (l : List PyData) (k : Nat), (enumD k l).length = l.length
  | [], _ => rfl
  | x :: l, k => by unfold enumD; rw [List.length_cons, enum_len l, List.length_cons]
theorem lay_pair {es : List Ent} {p : Nat × Nat} : lay 3 (dPair es p) := lay_tup fun d hd => by
  simp only [List.mem_cons, List.not_mem_nil, or_false] at hd
  rcases hd with rfl | rfl | rfl
  · exact lay_mono (lay_tup (k := 0) fun d hd => by
      simp only [List.mem_cons, List.not_mem_nil, or_false] at hd
      rcases hd with rfl | rfl <;> exact lay_int) (by decide)
  · exact lay_mono (lay_tup (k := 0) fun d hd => by
      simp only [List.mem_cons, List.not_mem_nil, or_false] at hd
      rcases hd with rfl | rfl <;> exact lay_int) (by decide)
  · exact lay_tup (k := 1) fun d hd => by
      simp only [List.mem_cons, List.not_mem_nil, or_false] at hd
      rcases hd with rfl | rfl <;> exact lay_listI
theorem alike_pair {es : List Ent} {p q : Nat × Nat} : alike (dPair es p) (dPair es q) = true := by
  simp [dPair, alike, alikeAll, alike_int]
theorem lt_pair {es : List Ent} {p q : Nat × Nat} (h : lexP p q) : dataLt (dPair es p) (dPair es q) = true := by
  unfold dPair
  rw [dataLt_tuple, dataLt_cons (by simp [alike, alikeAll])]
  have e : PyData.eqv (.tuple [.int p.1, .int p.2]) (.tuple [.int q.1, .int q.2]) = false := by
    unfold lexP at h
    simp only [PyData.eqv, PyData.eqvAll, Bool.and_true]
    rw [Bool.and_eq_false_iff]
    by_cases z : p.1 = q.1
    · refine .inr (beq_eq_false_iff_ne.mpr ?_); omega
    · refine .inl (beq_eq_false_iff_ne.mpr ?_); omega
  rw [e, if_neg Bool.false_ne_true, dataLt_ii, decide_eq_true_eq]
  unfold lexP at h
  omega
theorem sorted_pairs (es : List Ent) (n : Nat) (c : Nat × Nat → Bool) : opSorted [.list (((pP n).filter c).map (dPair es))] = some (((pQ n).filter c).map (dPair es)) := by
  have ok : sortOk (((pP n).filter c).map (dPair es)) = true := sortOk_of (k := 3) (fun d hd => by obtain ⟨i, _, rfl⟩ := List.mem_map.mp hd; exact lay_pair) (by decide)
    (fun a ha b hb => by obtain ⟨i, _, rfl⟩ := List.mem_map.mp ha; obtain ⟨j, _, rfl⟩ := List.mem_map.mp hb; exact alike_pair)
    (by
      unfold sortKinds
      have : (((pP n).filter c).map (dPair es)).all isTup1 = true := by simp [List.all_map, isTup1, dPair]
      rw [this]; simp)
  have e : srt (((pP n).filter c).map (dPair es)) = ((pQ n).filter c).map (dPair es) := srt_perm (((pP_perm n).filter _).map _) (by
    rw [List.pairwise_map]
    exact ((pQ_up n).filter _).imp fun h => lt_pair h)
  unfold opSorted; simp [itemsOf, ok, e]
/-- the ones met with j, of the first i -/
def rowP (j i : Nat) : List (Nat × Nat) := (List.range i).map fun i => (i, j)
def fnd (es : List Ent) (j i : Nat) : List PyData := (((pP j) ++ rowP j i).filter (condB es)).map (dPair es)
theorem fnd_yes {es : List Ent} {i j : Nat} (h : condB es (i, j) = true) : fnd es j (i + 1) = fnd es j i ++ [dPair es (i, j)] := by
  have row : rowP j (i + 1) = rowP j i ++ [(i, j)] := by unfold rowP; rw [List.range_succ, List.map_append]; rfl
  unfold fnd
  rw [row, ← List.append_assoc, List.filter_append, List.map_append]
  congr 1
  simp [h]
theorem fnd_no {es : List Ent} {i j : Nat} (h : condB es (i, j) = false) : fnd es j (i + 1) = fnd es j i := by
  have row : rowP j (i + 1) = rowP j i ++ [(i, j)] := by unfold rowP; rw [List.range_succ, List.map_append]; rfl
  unfold fnd
  rw [row, ← List.append_assoc, List.filter_append, List.map_append]
  simp [h]
theorem fnd_next {es : List Ent} {j : Nat} : fnd es j j = fnd es (j + 1) 0 := by simp [fnd, rowP, pP]
theorem fnd_len {es : List Ent} {i j : Nat} : (fnd es j i).length ≤ j * j + i := by
  unfold fnd
  rw [List.length_map]
  have h1 := List.length_filter_le (condB es) (pP j ++ rowP j i)
  have h2 := pP_len j
  have h4 : (rowP j i).length = i := by simp [rowP]
  rw [List.length_append, h4] at h1
  omega
theorem pairs_of_ok {n : Nat} {es : List Ent} {S : List So} (hl : es.length ≤ 1000) : m_pairs_of [recD n es] S = .ok (.list (((pQ es.length).filter (condB es)).map (dPair es))) S := by
  rw [← wpf_eq]
  simp [m_pairs_of, wp_fn, b_pairs_of]
  refine wp_for ?_
  simp
  refine forD_wp (fun j s => j ≤ es.length ∧ ∃ a3 a4 a5 a6 a7 a8 a9 a10, s = ⟨[.val (recD n es), .own (fnd es j 0), .val (.tuple (es.map entD)), a3, a4, a5, a6, a7, a8, a9, a10], S⟩) ?_ ?_ ⟨Nat.zero_le _, _, _, _, _, _, _, _, _, rfl⟩
  · rintro j d s hd ⟨hj, a3, a4, a5, a6, a7, a8, a9, a10, rfl⟩
    obtain ⟨x, hx, rfl⟩ := enum_get _ _ _ _ hd
    rw [List.getElem?_map] at hx
    obtain ⟨⟨o, t⟩, ho, rfl⟩ := Option.map_eq_some_iff.mp hx
    have hj2 : j < es.length := (List.getElem?_eq_some_iff.mp ho).1
    simp
    refine wp_for ?_
    simp [cut_to]
    refine forD_wp (fun i s => i ≤ j ∧ ∃ a6 a7 a8 a9 a10, s = ⟨[.val (recD n es), .own (fnd es j i), .val (.tuple (es.map entD)), .val (.int j), .val (tupI o), .val (.int t), a6, a7, a8, a9, a10], S⟩) ?_ ?_ ⟨Nat.zero_le _, a6, a7, a8, a9, a10, rfl⟩
    · rintro i d s hd ⟨hi, a6, a7, a8, a9, a10, rfl⟩
      obtain ⟨x, hx, rfl⟩ := enum_get _ _ _ _ hd
      have hij : i < j := by
        have := (List.getElem?_eq_some_iff.mp hx).1
        rw [List.length_take] at this
        omega
      rw [List.getElem?_take_of_lt hij, List.getElem?_map] at hx
      obtain ⟨⟨m, f⟩, hm, rfl⟩ := Option.map_eq_some_iff.mp hx
      have ci : condB es (i, j) = meetB (m, f) (o, t) := by unfold condB; rw [ev_at hm, ev_at ho]
      have len : (fnd es j i).length < 16777216 := by
        have h1 := fnd_len (es := es) (i := i) (j := j)
        have h3 : j * j ≤ 1000 * 1000 := Nat.mul_le_mul (by omega) (by omega)
        omega
      simp
      refine ⟨fun q1 => ⟨fun q2 => ⟨fun q3 => ?_, fun q3 => ?_⟩, fun q2 => ?_⟩, fun q1 => ?_⟩
      · have yes : meetB (m, f) (o, t) = true := by simp [meetB, q1, q2, q3]
        refine wp_lcP (onI fun x => !decide (x ∈ o)) id ?_
        simp only [wp_iSeq, eVar_at, List.getElem?_cons_succ, List.getElem?_cons_zero, wp_ok, items_tup, Option.some.injEq, exists_eq_left']
        refine ⟨fun d hd => ?_, ?_⟩
        · obtain ⟨x, _, rfl⟩ := List.mem_map.mp hd
          simp [onI]
        rw [fil_on]
        refine wp_lcP (onI fun x => !decide (x ∈ m)) id ?_
        simp only [wp_iSeq, eVar_at, List.getElem?_cons_succ, List.getElem?_cons_zero, wp_ok, items_tup, Option.some.injEq, exists_eq_left']
        refine ⟨fun d hd => ?_, ?_⟩
        · obtain ⟨x, _, rfl⟩ := List.mem_map.mp hd
          simp [onI]
        rw [fil_on, fnd_yes (ci.trans yes)]
        simp [len, dPair, ev_at hm, ev_at ho, onlyIn]
        omega
      · have q : meetB (m, f) (o, t) = false := by simp [meetB, q3]
        rw [fnd_no (ci.trans q)]
        simp
        omega
      · have q : meetB (m, f) (o, t) = false := by simp [meetB, q2]
        rw [fnd_no (ci.trans q)]
        simp
        omega
      · have q : meetB (m, f) (o, t) = false := by simp [meetB, q1]
        rw [fnd_no (ci.trans q)]
        simp
        omega
    · rintro s ⟨_, b6, b7, b8, b9, b10, rfl⟩
      rw [enum_len, List.length_take, List.length_map, Nat.min_eq_left (by omega), fnd_next]
      exact ⟨hj2, _, _, _, _, _, _, _, _, rfl⟩
  · rintro s ⟨_, a3, a4, a5, a6, a7, a8, a9, a10, rfl⟩
    rw [enum_len, List.length_map]
    have e : fnd es es.length 0 = (((pP es.length).filter (condB es)).map (dPair es)) := by simp [fnd, rowP]
    rw [e]
    simp [sorted_pairs]
/-! ### places -/
def pos (rk : List Int) (t : Int) : Int := (rk.idxOf t : Nat)
theorem ixOf_int {t : Int} : ∀ (rk : List Int) (k : Nat), t ∈ rk → ixOf (.int t) (rk.map .int) k = some (k + rk.idxOf t)
  | [], _, h => by simp at h
  | x :: rk, k, h => by
    rw [List.map_cons]
    unfold ixOf
    rw [eqv_int, List.idxOf_cons]
    by_cases z : x = t
    · subst z; simp
    · have zb : (x == t) = false := beq_eq_false_iff_ne.mpr z
      have hm : t ∈ rk := by
        rcases List.mem_cons.mp h with e | e
        · exact absurd e.symm z
        · exact e
      rw [zb, ixOf_int rk (k + 1) hm]
      simp
      omega
theorem ix_int {t : Int} {rk : List Int} (h : t ∈ rk) : ixFlat (.int t) (rk.map .int) = some (.int (pos rk t)) := by
  unfold ixFlat
  rw [flat_ints, ixOf_int rk 0 h]
  simp [flatD, pos]
def placesD (n : Nat) (rk : List Int) : PyData := .list (((upTo n).map (pos rk)).map .int)
theorem places_in_ok {n : Nat} {rk : List Int} {S : List So} (h : OrdOk n rk) (hn : n ≤ 1000) : m_places_in [tupI rk] S = .ok (placesD n rk) S := by
  have hl : rk.length = n := by rw [h.length_eq, upTo_len]
  rw [← wpf_eq]
  simp [m_places_in, wp_fn, b_places_in]
  refine wp_lcP (fun _ => true) (fun d => match d with | .int t => .int (pos rk t) | d => d) ?_
  simp [hl]
  refine ⟨by omega, ?_, ?_⟩
  · rw [rg_0]
    intro d hd
    obtain ⟨t, ht, rfl⟩ := List.mem_map.mp hd
    simp [ix_int (h.mem_iff.mpr ht)]
  · rw [rg_0]
    simp [placesD, List.filter_map]
    have q : (upTo n).filter (fun _ => true) = upTo n := by simp
    exact (congrArg _ q).trans rfl
theorem places_at {n : Nat} {rk : List Int} {t : Int} (h0 : 0 ≤ t) (h1 : t < n) : opIx (placesD n rk) (.int t) = some (.int (pos rk t)) := by
  have e : (((upTo n).map (pos rk)).map PyData.int)[t.toNat]? = some (.int (pos rk t)) := by
    rw [List.getElem?_map, List.getElem?_map]
    unfold upTo
    rw [List.getElem?_map, List.getElem?_range (by omega)]
    simp only [Option.map_some]
    rw [show ((t.toNat : Nat) : Int) = t by omega]
  have q := ix_nat e
  rw [show ((t.toNat : Nat) : Int) = t by omega] at q
  exact q
/-! ### clashes -/
/-- none of these stands lower than t -/
def noLow (rk : List Int) (t : Int) (l : List Int) : Bool := l.all fun x => !decide (pos rk x > pos rk t)
def clB (rk : List Int) (es : List Ent) (p : Nat × Nat) : Bool := noLow rk (ev es p.1).2 (onlyIn (ev es p.1).1 (ev es p.2).1) && noLow rk (ev es p.2).2 (onlyIn (ev es p.2).1 (ev es p.1).1)
theorem is_clash_ok {n : Nat} {rk : List Int} {es : List Ent} {S : List So} {p : Nat × Nat} (r1 : (∀ x ∈ (ev es p.1).1, 0 ≤ x ∧ x < (n : Int)) ∧ 0 ≤ (ev es p.1).2 ∧ (ev es p.1).2 < (n : Int)) (r2 : (∀ x ∈ (ev es p.2).1, 0 ≤ x ∧ x < (n : Int)) ∧ 0 ≤ (ev es p.2).2 ∧ (ev es p.2).2 < (n : Int)) :
    m_is_clash [dPair es p, placesD n rk] S = .ok (.bool (clB rk es p)) S := by
  rw [← wpf_eq]
  generalize hf : (ev es p.1).2 = f at *
  generalize ht : (ev es p.2).2 = t at *
  generalize hu : onlyIn (ev es p.1).1 (ev es p.2).1 = u
  generalize hv : onlyIn (ev es p.2).1 (ev es p.1).1 = v
  have ru : ∀ x ∈ u, 0 ≤ x ∧ x < (n : Int) := fun x hx => by rw [← hu] at hx; exact r1.1 x (List.mem_filter.mp hx).1
  have rv : ∀ x ∈ v, 0 ≤ x ∧ x < (n : Int) := fun x hx => by rw [← hv] at hx; exact r2.1 x (List.mem_filter.mp hx).1
  -- one of the two
  have one : ∀ (g : Int) (l : List Int) (a0 a2 a3 a4 a7 : Slot) {N B T : Sta → Prop} {R : PyData → Sta → Prop}, 0 ≤ g → g < (n : Int) → (∀ x ∈ l, 0 ≤ x ∧ x < (n : Int)) →
      (noLow rk g l = false → R (.bool false) ⟨[a0, .val (placesD n rk), a2, a3, a4, .val (.int g), .val (.list (l.map .int)), a7], S⟩) →
      (noLow rk g l = true → N ⟨[a0, .val (placesD n rk), a2, a3, a4, .val (.int g), .val (.list (l.map .int)), a7], S⟩) →
      ((sIf (asB (eOpL opAny (eCons (eLst (nLc (iSeq (eVar 6)) (gN 7) tYs (eOp2 opGt (eOp2 opIx (eVar 1) (eVar 7)) (eOp2 opIx (eVar 1) (eVar 5))) [7])) eNil))) (sRet (eC (.bool false))) sNx) ⟨[a0, .val (placesD n rk), a2, a3, a4, .val (.int g), .val (.list (l.map .int)), a7], S⟩).wp N R B T := fun g l a0 a2 a3 a4 a7 N B T R g0 g1 hl hR hN => by
    simp only [wp_if, wp_asB, wp_opL, wp_cons, wp_lst]
    refine wp_lcP (fun _ => true) (fun d => .bool (match d with | .int x => decide (pos rk x > pos rk g) | _ => false)) ?_
    simp only [wp_iSeq, eVar_at, List.getElem?_cons_succ, List.getElem?_cons_zero, wp_ok, items_list, Option.some.injEq, exists_eq_left']
    refine ⟨fun d hd => ?_, ?_⟩
    · obtain ⟨x, hx, rfl⟩ := List.mem_map.mp hd
      obtain ⟨x0, x1⟩ := hl x hx
      simp [places_at x0 x1, places_at g0 g1]
    · have q : ((l.map PyData.int).filter fun _ => true) = l.map .int := by simp
      rw [q]
      simp only [wp_nil, opAny_bools, Option.some.injEq, exists_eq_left', onB_bool, wp_ret, wp_C, wp_nx]
      have e : ((l.map PyData.int).any fun d => match d with | .int x => decide (pos rk x > pos rk g) | _ => false) = !noLow rk g l := by
        unfold noLow
        rw [List.any_map, ← List.not_any_eq_all_not, Bool.not_not]
        rfl
      rw [e]
      exact ⟨fun h => hR (by simpa using h), fun h => hN (by simpa using h)⟩
  simp [m_is_clash, wp_fn, b_is_clash, dPair, hf, ht, hu, hv]
  refine wp_for ?_
  simp only [zipD, wp_iZip, eVar_at, List.getElem?_cons_succ, List.getElem?_cons_zero, wp_ok, items_tup, Option.some.injEq, exists_eq_left', forD_cons, forD_nil]
  simp only [gT_at, gsCons_at, gN_at, gsNil_at, Option.bind_some, List.length_cons, List.length_nil, if_true, Option.some.injEq, exists_eq_left', List.set_cons_succ, List.set_cons_zero]
  have key : clB rk es p = (noLow rk f u && noLow rk t v) := by unfold clB; rw [hf, ht, hu, hv]
  refine one f u _ _ _ _ _ r1.2.1 r1.2.2 ru (fun h => ?_) fun h => ?_
  · rw [key, h]; exact ⟨rfl, rfl⟩
  · refine one t v _ _ _ _ _ r2.2.1 r2.2.2 rv (fun h' => ?_) fun h' => ?_
    · rw [key, h, h']; exact ⟨rfl, rfl⟩
    · rw [key, h, h']; exact ⟨rfl, rfl⟩
def dIx (p : Nat × Nat) : PyData := .tuple [.int p.1, .int p.2]
def resD : Option (Nat × Nat) → PyData
  | none => .none
  | some p => dIx p
def fullB (rk : List Int) (es : List Ent) (p : Nat × Nat) : Bool := condB es p && clB rk es p
def fstP (c : Nat × Nat → Bool) (n : Nat) : Option (Nat × Nat) := ((pQ n).filter c).head?
/-- the numbers of the entries are things -/
def Rng (n : Nat) (es : List Ent) : Prop := ∀ e ∈ es, (∀ x ∈ e.1, 0 ≤ x ∧ x < (n : Int)) ∧ e.2 ∈ e.1
theorem Rng.at {n : Nat} {es : List Ent} (h : Rng n es) {i : Nat} (hi : i < es.length) : (∀ x ∈ (ev es i).1, 0 ≤ x ∧ x < (n : Int)) ∧ 0 ≤ (ev es i).2 ∧ (ev es i).2 < (n : Int) := by
  have e := ev_at (List.getElem?_eq_getElem hi)
  obtain ⟨a, b⟩ := h _ (List.getElem_mem hi)
  rw [e]
  exact ⟨a, (a _ b).1, (a _ b).2⟩
theorem RecOk.rng {n : Nat} {es : List Ent} (h : RecOk n es) : Rng n es := fun e he => ⟨(h.ent e he).1.rg, (h.ent e he).2⟩
theorem clashes_of_ok {n : Nat} {rk : List Int} {es : List Ent} {L : List (Nat × Nat)} {S : List So} (ho : OrdOk n rk) (hn : n ≤ 1000) (hr : Rng n es) (hL : ∀ p ∈ L, p.1 < es.length ∧ p.2 < es.length) :
    m_clashes_of [.list (L.map (dPair es)), tupI rk] S = .ok (.list ((L.filter (clB rk es)).map dIx)) S := by
  rw [← wpf_eq]
  simp [m_clashes_of, wp_fn, b_clashes_of, places_in_ok ho hn]
  refine wp_lc ?_
  simp
  refine ⟨fun i acc s => s = ⟨[.val (.list (L.map (dPair es))), .val (tupI rk), .val (placesD n rk), .non], S⟩ ∧ acc = ((L.take i).filter (clB rk es)).map dIx, ⟨rfl, by simp⟩, ?_, ?_⟩
  · rintro i d acc s a b hp rfl ⟨rfl, rfl⟩
    generalize hab : (a, b) = p at hp
    obtain ⟨b1, b2⟩ := hL p (List.mem_of_getElem? hp)
    have tk : L.take (i + 1) = L.take i ++ [p] := by rw [List.take_add_one, hp]; rfl
    simp [is_clash_ok (hr.at b1) (hr.at b2), tk]
    exact fun h => ⟨dIx p, by simp [dPair, dIx], by simp [h]⟩
  · rintro acc s ⟨rfl, rfl⟩
    simp
theorem lay_ix {p : Nat × Nat} : lay 1 (dIx p) := lay_tup fun d hd => by
  simp only [List.mem_cons, List.not_mem_nil, or_false] at hd
  rcases hd with rfl | rfl <;> exact lay_int
theorem noLow_nil {rk l : List Int} {t : Int} : (l.filter fun x => decide (pos rk x > pos rk t)).isEmpty = noLow rk t l := by
  unfold noLow
  rw [Bool.eq_iff_iff, List.isEmpty_iff, List.filter_eq_nil_iff, List.all_eq_true]
  exact ⟨fun h x hx => by have := h x hx; simpa using this, fun h x hx => by have := h x hx; simpa using this⟩
theorem fstP_some {c : Nat × Nat → Bool} {n i j : Nat} (h1 : i < j) (h2 : j < n) (hc : c (i, j) = true) (hf : ∀ a b, a < b → b < n → c (a, b) = true → i < a ∨ (i = a ∧ j ≤ b)) : fstP c n = some (i, j) := by
  unfold fstP
  have hm : (i, j) ∈ (pQ n).filter c := List.mem_filter.mpr ⟨pQ_mem.mpr ⟨h1, h2⟩, hc⟩
  have up := (pQ_up n).filter c
  cases q : (pQ n).filter c with
  | nil => rw [q] at hm; cases hm
  | cons p r =>
    rw [q] at hm up
    rcases List.mem_cons.mp hm with e | e
    · rw [← e]; rfl
    · exfalso
      have lt := (List.pairwise_cons.mp up).1 _ e
      have hp : p ∈ (pQ n).filter c := by rw [q]; exact List.mem_cons_self
      obtain ⟨a, b⟩ := p
      obtain ⟨m1, m2⟩ := List.mem_filter.mp hp
      have m1 := pQ_mem.mp m1
      have := hf a b m1.1 m1.2 m2
      unfold lexP at lt
      simp at lt
      omega
theorem fstP_none {c : Nat × Nat → Bool} {n : Nat} (hf : ∀ a b, a < b → b < n → c (a, b) = false) : fstP c n = none := by
  unfold fstP
  rw [List.head?_eq_none_iff, List.filter_eq_nil_iff]
  rintro ⟨a, b⟩ hp
  have := pQ_mem.mp hp
  rw [hf a b this.1 this.2]
  exact Bool.false_ne_true
theorem rg2_get {a n k : Nat} {d : PyData} (h : (rgD (a : Int) (n : Int))[k]? = some d) : d = .int ((a + k : Nat) : Int) ∧ a + k < n := by
  unfold rgD at h
  rw [List.getElem?_map] at h
  obtain ⟨x, hx, rfl⟩ := Option.map_eq_some_iff.mp h
  obtain ⟨hk, rfl⟩ := List.getElem?_eq_some_iff.mp hx
  rw [List.length_range] at hk
  rw [List.getElem_range]
  exact ⟨by congr 1, by omega⟩
theorem rg2_len (a n : Nat) : (rgD (a : Int) (n : Int)).length = n - a := by
  unfold rgD
  rw [List.length_map, List.length_range]
  omega
theorem fstP_in {c : Nat × Nat → Bool} {n : Nat} {p : Nat × Nat} (h : fstP c n = some p) : p.1 < n ∧ p.2 < n := by
  unfold fstP at h
  have := pQ_mem.mp (List.mem_filter.mp (List.mem_of_head? h)).1
  omega
theorem rep_res {c : Nat × Nat → Bool} {n : Nat} (hn : n ≤ 1000) : Rep 1 100 (resD (fstP c n)) := by
  cases h : fstP c n with
  | none => exact rep_none.mono (by decide) (by decide)
  | some p =>
    have := fstP_in h
    refine (rep_tup (k := 0) (m := 20) (n := 2) (fun d hd => ?_) (by simp)).mono (by decide) (by decide)
    simp only [List.mem_cons, List.not_mem_nil, or_false] at hd
    rcases hd with rfl | rfl <;> exact rep_int (by omega)
/-- a drawn record -/
def Made (n : Nat) (d : PyData) : Prop := ∃ es : List Ent, d = recD n es ∧ (es.map (·.1)).Sublist (menus n) ∧ ∀ e ∈ es, e.2 ∈ e.1
/-- the things of m that stand no higher than p -/
def lowF (rk : List Int) (p : Int) (m : List Int) : List Int := m.filter fun x => decide (pos rk x ≥ pos rk p)
def covB (rk : List Int) (e : Ent) (m : List Int) : Bool := (m.all fun x => decide (x ∈ e.1)) && ((lowF rk e.2 e.1).all fun x => decide (x ∈ m))
/-- the greatest attention that explains -/
def greatF (rk : List Int) (es : List Ent) (m : List Int) : List Int := match es.find? fun e => covB rk e m with
  | some e => lowF rk e.2 m
  | none => m
theorem all_in {l m : List Int} : ((l.map PyData.int).all fun d => match d with | .int x => decide (x ∈ m) | _ => false) = l.all fun x => decide (x ∈ m) := by rw [List.all_map]; rfl
abbrev tabD (A : List (List Int)) : PyData := .tuple (A.map tupI)
/-! ### menus as sets -/
theorem subs_mem : ∀ (k : Nat) (lo : Int) (m : List Int), m ∈ subs k lo ↔ m ≠ [] ∧ m.Pairwise (· < ·) ∧ ∀ x ∈ m, lo ≤ x ∧ x < lo + k
  | 0, lo, m => by
    simp only [subs, List.not_mem_nil, false_iff]
    rintro ⟨h1, _, h3⟩
    cases m with
    | nil => exact h1 rfl
    | cons x r => have := h3 x List.mem_cons_self; omega
  | k + 1, lo, m => by
    have ih := subs_mem k (lo + 1)
    simp only [subs, List.mem_cons, List.mem_append, List.mem_map, ih]
    constructor
    · rintro (rfl | ⟨a, ⟨h1, h2, h3⟩, rfl⟩ | ⟨h1, h2, h3⟩)
      · exact ⟨by simp, by simp, fun x hx => by simp at hx; omega⟩
      · refine ⟨by simp, List.pairwise_cons.mpr ⟨fun x hx => by have := h3 x hx; omega, h2⟩, fun x hx => ?_⟩
        rcases List.mem_cons.mp hx with rfl | hx
        · omega
        · have := h3 x hx; omega
      · exact ⟨h1, h2, fun x hx => by have := h3 x hx; omega⟩
    · rintro ⟨h1, h2, h3⟩
      cases m with
      | nil => exact absurd rfl h1
      | cons x r =>
        obtain ⟨p1, p2⟩ := List.pairwise_cons.mp h2
        have hx := h3 x List.mem_cons_self
        by_cases z : x = lo
        · subst z
          cases r with
          | nil => exact .inl rfl
          | cons y t =>
            refine .inr (.inl ⟨y :: t, ⟨by simp, p2, fun w hw => ?_⟩, rfl⟩)
            have q1 := p1 w hw
            have q2 := h3 w (List.mem_cons_of_mem _ hw)
            omega
        · refine .inr (.inr ⟨by simp, h2, fun w hw => ?_⟩)
          have q2 := h3 w hw
          rcases List.mem_cons.mp hw with rfl | hw
          · omega
          · have q1 := p1 w hw; omega
theorem menus_mem {n : Nat} {m : List Int} : m ∈ menus n ↔ m ≠ [] ∧ m.Pairwise (· < ·) ∧ ∀ x ∈ m, 0 ≤ x ∧ x < (n : Int) := by
  rw [subs_mem]
  simp
theorem menus_fil {n : Nat} {m : List Int} {q : Int → Bool} (h : m ∈ menus n) (ne : m.filter q ≠ []) : m.filter q ∈ menus n := by
  obtain ⟨_, h2, h3⟩ := menus_mem.mp h
  exact menus_mem.mpr ⟨ne, h2.filter _, fun x hx => h3 x (List.mem_filter.mp hx).1⟩
/-- ascending rows with the same members are equal -/
theorem up_ext : ∀ {a b : List Int}, a.Pairwise (· < ·) → b.Pairwise (· < ·) → (∀ x, x ∈ a ↔ x ∈ b) → a = b
  | [], [], _, _, _ => rfl
  | [], y :: b, _, _, h => absurd ((h y).mpr List.mem_cons_self) (by simp)
  | x :: a, [], _, _, h => absurd ((h x).mp List.mem_cons_self) (by simp)
  | x :: a, y :: b, ha, hb, h => by
    obtain ⟨a1, a2⟩ := List.pairwise_cons.mp ha
    obtain ⟨b1, b2⟩ := List.pairwise_cons.mp hb
    have exy : x = y := by
      have h1 := (h x).mp List.mem_cons_self
      have h2 := (h y).mpr List.mem_cons_self
      rcases List.mem_cons.mp h1 with e | e
      · exact e
      · rcases List.mem_cons.mp h2 with e2 | e2
        · exact e2.symm
        · have q1 := b1 x e
          have q2 := a1 y e2
          omega
    subst exy
    congr 1
    refine up_ext a2 b2 fun z => ⟨fun hz => ?_, fun hz => ?_⟩
    · rcases List.mem_cons.mp ((h z).mp (List.mem_cons_of_mem _ hz)) with e | e
      · have := a1 z hz; omega
      · exact e
    · rcases List.mem_cons.mp ((h z).mpr (List.mem_cons_of_mem _ hz)) with e | e
      · have := b1 z hz; omega
      · exact e
/-! ### attentions -/
/-- without x -/
def lessF (m : List Int) (x : Int) : List Int := m.filter fun y => !(y == x)
/-- an attention: of each menu a menu within it -/
def AttOk (n : Nat) (A : List Int → List Int) : Prop := ∀ T ∈ menus n, A T ∈ menus n ∧ ∀ x ∈ A T, x ∈ T
def Steady (n : Nat) (A : List Int → List Int) : Prop := ∀ T ∈ menus n, ∀ x ∈ T, x ∉ A T → A (lessF T x) = A T
theorem less_mem {m : List Int} {x y : Int} : y ∈ lessF m x ↔ y ∈ m ∧ y ≠ x := by simp [lessF]
theorem less_menu {n : Nat} {A : List Int → List Int} (h : AttOk n A) {T : List Int} (hT : T ∈ menus n) {x : Int} (hx : x ∉ A T) : lessF T x ∈ menus n := by
  refine menus_fil hT fun e => ?_
  obtain ⟨a1, a2⟩ := h T hT
  obtain ⟨y, hy⟩ := List.exists_mem_of_ne_nil _ (menus_mem.mp a1).1
  have : y ∈ lessF T x := less_mem.mpr ⟨a2 y hy, fun e => hx (e ▸ hy)⟩
  rw [show lessF T x = [] from e] at this
  cases this
theorem less_len {T : List Int} {x : Int} (hx : x ∈ T) : (lessF T x).length < T.length := by
  unfold lessF
  exact List.length_filter_lt_length_iff_exists.mpr ⟨x, hx, by simp⟩
/-- between what is noticed and the menu, the same is noticed -/
theorem between {n : Nat} {A : List Int → List Int} (h : AttOk n A) (st : Steady n A) : ∀ (k : Nat) (S T : List Int), S.length ≤ k → S ∈ menus n → T ∈ menus n → (∀ x ∈ A S, x ∈ T) → (∀ x ∈ T, x ∈ S) → A T = A S := by
  intro k
  induction k with
  | zero =>
    intro S T hk hS
    have := (menus_mem.mp hS).1
    exact absurd (List.eq_nil_of_length_eq_zero (by omega)) this
  | succ k ih =>
    intro S T hk hS hT h1 h2
    by_cases z : ∃ x ∈ S, x ∉ T
    · obtain ⟨x, hx, hxT⟩ := z
      have hxA : x ∉ A S := fun q => hxT (h1 x q)
      have e := st S hS x hx hxA
      have := less_len hx
      rw [← e]
      refine ih (lessF S x) T (by omega) (less_menu h hS hxA) hT (fun y hy => h1 y (by rw [← e]; exact hy)) fun y hy => less_mem.mpr ⟨h2 y hy, fun q => hxT (q ▸ hy)⟩
    · have : T = S := up_ext (menus_mem.mp hT).2.1 (menus_mem.mp hS).2.1 fun x => ⟨h2 x, fun hx => Classical.byContradiction fun q => z ⟨x, hx, q⟩⟩
      rw [this]
/-- the highest of l -/
def TopOf (rk : List Int) (l : List Int) (p : Int) : Prop := p ∈ l ∧ ∀ x ∈ l, pos rk p ≤ pos rk x
def Makes (rk : List Int) (es : List Ent) (A : List Int → List Int) : Prop := ∀ e ∈ es, TopOf rk (A e.1) e.2
theorem pos_inj {n : Nat} {rk : List Int} (ho : OrdOk n rk) {x y : Int} (hx : 0 ≤ x ∧ x < (n : Int)) (hy : 0 ≤ y ∧ y < (n : Int)) (h : pos rk x = pos rk y) : x = y := by
  have mx : x ∈ rk := ho.mem_iff.mpr (upTo_mem.mpr hx)
  have my : y ∈ rk := ho.mem_iff.mpr (upTo_mem.mpr hy)
  have e : rk.idxOf x = rk.idxOf y := by unfold pos at h; omega
  have h1 := List.getElem_idxOf (List.idxOf_lt_length_of_mem mx)
  have h2 := List.getElem_idxOf (List.idxOf_lt_length_of_mem my)
  rw [← h1, ← h2]
  simp only [e]
theorem low_mem {rk m : List Int} {p x : Int} : x ∈ lowF rk p m ↔ x ∈ m ∧ pos rk p ≤ pos rk x := by simp [lowF]
theorem cov_iff {rk m : List Int} {e : Ent} : covB rk e m = true ↔ (∀ x ∈ m, x ∈ e.1) ∧ ∀ x ∈ e.1, pos rk e.2 ≤ pos rk x → x ∈ m := by
  simp only [covB, Bool.and_eq_true, List.all_eq_true, decide_eq_true_eq, low_mem]
  exact ⟨fun ⟨h1, h2⟩ => ⟨h1, fun x a b => h2 x ⟨a, b⟩⟩, fun ⟨h1, h2⟩ => ⟨h1, fun x ⟨a, b⟩ => h2 x a b⟩⟩
/-- two entries do not clash -/
def Apart (rk : List Int) (a b : Ent) : Prop := a.2 ≠ b.2 → a.2 ∈ b.1 → b.2 ∈ a.1 → (∃ x ∈ a.1, x ∉ b.1 ∧ pos rk a.2 < pos rk x) ∨ ∃ x ∈ b.1, x ∉ a.1 ∧ pos rk b.2 < pos rk x
/-- what covers a menu has one pick -/
theorem cov_pick {rk m : List Int} {a b : Ent} (h : Apart rk a b) (ha : a.2 ∈ a.1) (hb : b.2 ∈ b.1) (c1 : covB rk a m = true) (c2 : covB rk b m = true) : a.2 = b.2 := by
  obtain ⟨a1, a2⟩ := cov_iff.mp c1
  obtain ⟨b1, b2⟩ := cov_iff.mp c2
  refine Classical.byContradiction fun ne => ?_
  have pa := a2 _ ha (Int.le_refl _)
  have pb := b2 _ hb (Int.le_refl _)
  rcases h ne (b1 _ pa) (a1 _ pb) with ⟨x, hx, nx, lt⟩ | ⟨x, hx, nx, lt⟩
  · exact nx (b1 x (a2 x hx (Int.le_of_lt lt)))
  · exact nx (a1 x (b2 x hx (Int.le_of_lt lt)))
theorem apart_of {rk : List Int} {es : List Ent} (h : fstP (fullB rk es) es.length = none) : ∀ i j, i < j → j < es.length → Apart rk (ev es i) (ev es j) := by
  intro i j hij hj h1 h2 h3
  have no : fullB rk es (i, j) = false := by
    unfold fstP at h
    rw [List.head?_eq_none_iff, List.filter_eq_nil_iff] at h
    have := h (i, j) (pQ_mem.mpr ⟨hij, hj⟩)
    simpa using this
  have yes : condB es (i, j) = true := by simp [condB, meetB, h1, h2, h3]
  unfold fullB at no
  rw [yes, Bool.true_and] at no
  unfold clB noLow onlyIn at no
  rw [Bool.and_eq_false_iff, List.all_eq_false, List.all_eq_false] at no
  rcases no with ⟨x, hx, q⟩ | ⟨x, hx, q⟩
  · obtain ⟨m1, m2⟩ := List.mem_filter.mp hx
    exact .inl ⟨x, m1, by simpa using m2, by simpa using q⟩
  · obtain ⟨m1, m2⟩ := List.mem_filter.mp hx
    exact .inr ⟨x, m1, by simpa using m2, by simpa using q⟩
theorem Apart.symm {rk : List Int} {a b : Ent} (h : Apart rk a b) : Apart rk b a := fun h1 h2 h3 => (h (Ne.symm h1) h3 h2).symm
/-- all of a record's entries stand apart -/
def AllApart (rk : List Int) (es : List Ent) : Prop := ∀ a ∈ es, ∀ b ∈ es, Apart rk a b
theorem all_apart {rk : List Int} {es : List Ent} (h : fstP (fullB rk es) es.length = none) : AllApart rk es := by
  intro a ha b hb
  obtain ⟨i, hi, rfl⟩ := List.mem_iff_getElem.mp ha
  obtain ⟨j, hj, rfl⟩ := List.mem_iff_getElem.mp hb
  have e1 := ev_at (List.getElem?_eq_getElem hi)
  have e2 := ev_at (List.getElem?_eq_getElem hj)
  rcases Nat.lt_trichotomy i j with q | q | q
  · rw [← e1, ← e2]; exact apart_of h i j q hj
  · subst q; exact fun h1 => absurd rfl h1
  · rw [← e1, ← e2]; exact (apart_of h j i q hi).symm
/-! ### the greatest attention -/
/-- the entries' menus are menus, their picks in them -/
def EntOk (n : Nat) (es : List Ent) : Prop := ∀ e ∈ es, e.1 ∈ menus n ∧ e.2 ∈ e.1
theorem EntOk.rng {n : Nat} {es : List Ent} (h : EntOk n es) : Rng n es := fun e he => ⟨(menus_mem.mp (h e he).1).2.2, (h e he).2⟩
theorem great_cov {rk m : List Int} {es : List Ent} {n : Nat} (ok : EntOk n es) (ap : AllApart rk es) {e : Ent} (he : e ∈ es) (c : covB rk e m = true) : greatF rk es m = lowF rk e.2 m := by
  unfold greatF
  cases q : es.find? fun e => covB rk e m with
  | none =>
    have := List.find?_eq_none.mp q e he
    exact absurd c this
  | some e' =>
    have c' := List.find?_some q
    have he' := List.mem_of_find?_eq_some q
    dsimp only
    rw [show e'.2 = e.2 from cov_pick (ap e' he' e he) (ok e' he').2 (ok e he).2 c' c]
theorem great_none {rk m : List Int} {es : List Ent} (h : ∀ e ∈ es, covB rk e m = false) : greatF rk es m = m := by
  unfold greatF
  rw [List.find?_eq_none.mpr fun e he => by rw [h e he]; exact Bool.false_ne_true]
theorem cov_or (rk m : List Int) (es : List Ent) : (∃ e ∈ es, covB rk e m = true) ∨ ∀ e ∈ es, covB rk e m = false := by
  by_cases h : ∃ e ∈ es, covB rk e m = true
  · exact .inl h
  · refine .inr fun e he => ?_
    cases q : covB rk e m with
    | false => rfl
    | true => exact absurd ⟨e, he, q⟩ h
theorem great_att {rk : List Int} {es : List Ent} {n : Nat} (ok : EntOk n es) (ap : AllApart rk es) : AttOk n (greatF rk es) := by
  intro T hT
  rcases cov_or rk T es with ⟨e, he, c⟩ | h
  · rw [great_cov ok ap he c]
    obtain ⟨c1, c2⟩ := cov_iff.mp c
    have hp : e.2 ∈ lowF rk e.2 T := low_mem.mpr ⟨c2 _ (ok e he).2 (Int.le_refl _), Int.le_refl _⟩
    exact ⟨menus_fil hT (List.ne_nil_of_mem hp), fun x hx => (low_mem.mp hx).1⟩
  · rw [great_none h]
    exact ⟨hT, fun _ h => h⟩
theorem great_steady {rk : List Int} {es : List Ent} {n : Nat} (ok : EntOk n es) (ap : AllApart rk es) : Steady n (greatF rk es) := by
  intro T hT x hx nx
  rcases cov_or rk T es with ⟨e, he, c⟩ | h
  · rw [great_cov ok ap he c] at nx ⊢
    obtain ⟨c1, c2⟩ := cov_iff.mp c
    have lt : ¬ pos rk e.2 ≤ pos rk x := fun q => nx (low_mem.mpr ⟨hx, q⟩)
    have c' : covB rk e (lessF T x) = true := cov_iff.mpr ⟨fun y hy => c1 y (less_mem.mp hy).1, fun y h1 h2 => less_mem.mpr ⟨c2 y h1 h2, fun q => lt (q ▸ h2)⟩⟩
    rw [great_cov ok ap he c']
    have up := (menus_mem.mp hT).2.1
    refine up_ext ((up.filter _).filter _) (up.filter _) fun y => ?_
    show y ∈ lowF rk e.2 (lessF T x) ↔ y ∈ lowF rk e.2 T
    rw [low_mem, low_mem, less_mem]
    exact ⟨fun ⟨⟨a, _⟩, b⟩ => ⟨a, b⟩, fun ⟨a, b⟩ => ⟨⟨a, fun q => lt (q ▸ b)⟩, b⟩⟩
  · rw [great_none h] at nx
    exact absurd hx nx
theorem great_makes {rk : List Int} {es : List Ent} {n : Nat} (ok : EntOk n es) (ap : AllApart rk es) : Makes rk es (greatF rk es) := by
  intro e he
  have c : covB rk e e.1 = true := cov_iff.mpr ⟨fun _ h => h, fun _ h _ => h⟩
  rw [great_cov ok ap he c]
  exact ⟨low_mem.mpr ⟨(ok e he).2, Int.le_refl _⟩, fun x hx => (low_mem.mp hx).2⟩
theorem great_most {rk : List Int} {es : List Ent} {n : Nat} {A : List Int → List Int} (ok : EntOk n es) (ap : AllApart rk es) (at_ : AttOk n A) (st : Steady n A) (mk : Makes rk es A) : ∀ T ∈ menus n, ∀ x ∈ A T, x ∈ greatF rk es T := by
  intro T hT x hx
  rcases cov_or rk T es with ⟨e, he, c⟩ | h
  · rw [great_cov ok ap he c]
    obtain ⟨c1, c2⟩ := cov_iff.mp c
    obtain ⟨m1, m2⟩ := mk e he
    have eq : A T = A e.1 := between at_ st _ e.1 T (Nat.le_refl _) (ok e he).1 hT (fun y hy => c2 y ((at_ e.1 (ok e he).1).2 y hy) (m2 y hy)) c1
    exact low_mem.mpr ⟨(at_ T hT).2 x hx, m2 x (by rw [← eq]; exact hx)⟩
  · rw [great_none h]
    exact (at_ T hT).2 x hx
theorem no_clash {rk : List Int} {es : List Ent} {n : Nat} {A : List Int → List Int} (ho : OrdOk n rk) (ok : EntOk n es) (at_ : AttOk n A) (st : Steady n A) (mk : Makes rk es A) : fstP (fullB rk es) es.length = none := by
  refine fstP_none fun i j hij hj => ?_
  cases q : fullB rk es (i, j) with
  | false => rfl
  | true =>
    exfalso
    have e1 := ev_at (List.getElem?_eq_getElem (show i < es.length by omega))
    have e2 := ev_at (List.getElem?_eq_getElem hj)
    have h1 : es[i] ∈ es := List.getElem_mem _
    have h2 : es[j] ∈ es := List.getElem_mem _
    generalize es[i] = a at *
    generalize es[j] = b at *
    obtain ⟨am, ap⟩ := ok a h1
    obtain ⟨bm, bp⟩ := ok b h2
    unfold fullB condB clB at q
    rw [e1, e2] at q
    simp only [meetB, noLow, onlyIn, Bool.and_eq_true, Bool.not_eq_true', beq_eq_false_iff_ne, decide_eq_true_eq, List.all_eq_true, List.mem_filter, decide_eq_false_iff_not, Int.not_lt, gt_iff_lt] at q
    obtain ⟨⟨ne, fo, sm⟩, l1, l2⟩ := q
    have rngA := (menus_mem.mp am).2.2
    have rngB := (menus_mem.mp bm).2.2
    obtain ⟨a1, a2⟩ := mk a h1
    obtain ⟨b1, b2⟩ := mk b h2
    have sub1 : ∀ x ∈ A a.1, x ∈ b.1 := fun x hx => Classical.byContradiction fun nb => by
      have xm := (at_ a.1 am).2 x hx
      have le := l1 x ⟨xm, nb⟩
      have := a2 x hx
      have e := pos_inj ho (rngA x xm) (rngA _ ap) (by omega)
      exact nb (e ▸ fo)
    have sub2 : ∀ x ∈ A b.1, x ∈ a.1 := fun x hx => Classical.byContradiction fun nb => by
      have xm := (at_ b.1 bm).2 x hx
      have le := l2 x ⟨xm, nb⟩
      have := b2 x hx
      have e := pos_inj ho (rngB x xm) (rngB _ bp) (by omega)
      exact nb (e ▸ sm)
    have cm : a.1.filter (fun x => decide (x ∈ b.1)) ∈ menus n := menus_fil am (List.ne_nil_of_mem (List.mem_filter.mpr ⟨ap, by simpa using fo⟩))
    have q1 : A (a.1.filter (fun x => decide (x ∈ b.1))) = A a.1 := between at_ st _ a.1 _ (Nat.le_refl _) am cm (fun x hx => List.mem_filter.mpr ⟨(at_ a.1 am).2 x hx, by simpa using sub1 x hx⟩) fun x hx => (List.mem_filter.mp hx).1
    have q2 : A (a.1.filter (fun x => decide (x ∈ b.1))) = A b.1 := between at_ st _ b.1 _ (Nat.le_refl _) bm cm (fun x hx => List.mem_filter.mpr ⟨sub2 x hx, by simpa using (at_ b.1 bm).2 x hx⟩) fun x hx => by simpa using (List.mem_filter.mp hx).2
    have q3 : A a.1 = A b.1 := q1.symm.trans q2
    have p1 := a2 b.2 (by rw [q3]; exact b1)
    have p2 := b2 a.2 (by rw [← q3]; exact a1)
    exact ne (pos_inj ho (rngA _ ap) (rngB _ bp) (by omega))
/-! ### tables -/
/-- a table, read menu by menu -/
def look (n : Nat) (A : List (List Int)) (T : List Int) : List Int := A.getD ((menus n).idxOf T) []
theorem eqv_tupI (a b : List Int) : PyData.eqv (tupI a) (tupI b) = decide (a = b) := by
  have key : ∀ a b : List Int, PyData.eqvAll (a.map .int) (b.map .int) = decide (a = b) := by
    intro a
    induction a with
    | nil => intro b; cases b <;> simp [PyData.eqvAll]
    | cons x a ih =>
      intro b
      cases b with
      | nil => simp [PyData.eqvAll]
      | cons y b =>
        rw [List.map_cons, List.map_cons]
        unfold PyData.eqvAll
        rw [ih b, eqv_int, Bool.eq_iff_iff]
        simp
  show PyData.eqvAll (a.map .int) (b.map .int) = _
  exact key a b
theorem ixOf_tup {t : List Int} : ∀ (l : List (List Int)) (k : Nat), t ∈ l → ixOf (tupI t) (l.map tupI) k = some (k + l.idxOf t)
  | [], _, h => by simp at h
  | x :: l, k, h => by
    rw [List.map_cons]
    unfold ixOf
    rw [eqv_tupI, List.idxOf_cons]
    by_cases z : x = t
    · subst z; simp
    · have zb : (x == t) = false := beq_eq_false_iff_ne.mpr z
      have hm : t ∈ l := by
        rcases List.mem_cons.mp h with e | e
        · exact absurd e.symm z
        · exact e
      rw [zb, ixOf_tup l (k + 1) hm]
      simp [z]
      omega
theorem ixDeep_menu {n : Nat} {t : List Int} (h : t ∈ menus n) : ixDeep (tupI t) ((menus n).map tupI) = some (.int ((menus n).idxOf t : Nat)) := by
  unfold ixDeep
  have s1 : shp (.list ((menus n).map tupI)) = true := lay_shp (k := 2) (lay_list fun d hd => by obtain ⟨i, _, rfl⟩ := List.mem_map.mp hd; exact lay_tupI) (by decide)
  have s2 : shp (tupI t) = true := lay_shp (k := 1) lay_tupI (by decide)
  rw [s1, s2, ixOf_tup _ 0 h]
  simp
theorem look_at {n : Nat} {A : List (List Int)} {T : List Int} (hl : A.length = (menus n).length) (h : T ∈ menus n) : atI (A.map tupI) (((menus n).idxOf T : Nat) : Int) = some (tupI (look n A T)) := by
  have lt : (menus n).idxOf T < A.length := by rw [hl]; exact List.idxOf_lt_length_of_mem h
  refine ix_nat ?_
  rw [List.getElem?_map, List.getElem?_eq_getElem lt]
  unfold look
  rw [List.getD_eq_getElem?_getD, List.getElem?_eq_getElem lt]
  rfl
theorem menus_nodup {n : Nat} (h : n ≤ 5) : (menus n).Nodup := by
  have := menus_lt h
  exact (List.pairwise_cons.mp this).2.imp fun {a b} q e => by subst e; exact List.lt_irrefl a (of_decide_eq_true q)
theorem look_get {n i : Nat} {A : List (List Int)} {T a : List Int} (hn : n ≤ 5) (hT : (menus n)[i]? = some T) (ha : A[i]? = some a) : look n A T = a := by
  obtain ⟨hi, e⟩ := List.getElem?_eq_some_iff.mp hT
  have : (menus n).idxOf T = i := by rw [← e]; exact (menus_nodup hn).idxOf_getElem i hi
  unfold look
  rw [this, List.getD_eq_getElem?_getD, ha]
  rfl
theorem look_map {n : Nat} (hn : n ≤ 5) {f : List Int → List Int} {T : List Int} (h : T ∈ menus n) : look n ((menus n).map f) T = f T := by
  obtain ⟨i, hi, e⟩ := List.mem_iff_getElem.mp h
  exact look_get hn (by rw [List.getElem?_eq_getElem hi, e]) (by rw [List.getElem?_map, List.getElem?_eq_getElem hi, e]; rfl)
theorem less_ok {m : List Int} {x : Int} {S : List So} : m__law_less [tupI m, .int x] S = .ok (tupI (lessF m x)) S := by
  rw [← wpf_eq]
  simp [m__law_less, wp_fn, b__law_less]
  refine wp_lcP (onI fun y => !(y == x)) id ?_
  simp only [wp_iSeq, eVar_at, List.getElem?_cons_succ, List.getElem?_cons_zero, wp_ok, items_tup, Option.some.injEq, exists_eq_left']
  refine ⟨fun d hd => ?_, ?_⟩
  · obtain ⟨y, hy, rfl⟩ := List.mem_map.mp hd
    simp [onI]
  rw [fil_on]
  simp [lessF]
theorem opNe_tupI {a b : List Int} : opNe (tupI a) (tupI b) = some (.bool (!decide (a = b))) := by
  have s : ∀ t : List Int, shp (tupI t) = true := fun t => lay_shp (k := 1) lay_tupI (by decide)
  show (eqD (tupI a) (tupI b)).map _ = _
  simp only [eqD]
  rw [s, s, eqv_tupI]; rfl
theorem opEq_tupI {a b : List Int} : opEq (tupI a) (tupI b) = some (.bool (decide (a = b))) := by
  have s : ∀ t : List Int, shp (tupI t) = true := fun t => lay_shp (k := 1) lay_tupI (by decide)
  show (eqD (tupI a) (tupI b)).map _ = _
  simp only [eqD]
  rw [s, s, eqv_tupI]; rfl
theorem zip_get : ∀ (a b : List PyData) (i : Nat) (d : PyData), (zipD a b)[i]? = some d → ∃ x y, a[i]? = some x ∧ b[i]? = some y ∧ d = .tuple [x, y]
  | [], b, i, d, h => by simp [zipD] at h
  | x :: a, [], i, d, h => by simp [zipD] at h
  | x :: a, y :: b, 0, d, h => ⟨x, y, rfl, rfl, by simp [zipD] at h; exact h.symm⟩
  | x :: a, y :: b, i + 1, d, h => by
    obtain ⟨u, v, h1, h2, h3⟩ := zip_get a b i d (by simpa [zipD] using h)
    exact ⟨u, v, h1, h2, h3⟩
theorem zip_len (a b : List PyData) : (zipD a b).length = min a.length b.length := zipD_len a b
/-- the table's parts are menus within their menus -/
def TabOk (n : Nat) (A : List (List Int)) : Prop := A.length = (menus n).length ∧ AttOk n (look n A)
def steadyB (n : Nat) (A : List (List Int)) : Bool := (menus n).all fun T => T.all fun x => decide (x ∈ look n A T) || decide (look n A (lessF T x) = look n A T)
theorem steady_iff {n : Nat} {A : List (List Int)} : steadyB n A = true ↔ Steady n (look n A) := by
  simp only [steadyB, List.all_eq_true, Bool.or_eq_true, decide_eq_true_eq]
  exact ⟨fun h T hT x hx nx => (h T hT x hx).resolve_left nx, fun h T hT x hx => Classical.byCases (fun q : x ∈ look n A T => .inl q) fun q => .inr (h T hT x hx q)⟩
/-! ### all tables -/
def partsF (every : List (List Int)) (T : List Int) : List (List Int) := every.filter fun P => (P.filter fun x => !decide (x ∈ T)).isEmpty
def longF (parts : List (List Int)) (found : List (List (List Int))) : List (List (List Int)) := found.flatMap fun A => parts.map fun P => A ++ [P]
def tabs (n : Nat) : Nat → List (List (List Int))
  | 0 => [[]]
  | i + 1 => longF (partsF (menus n) ((menus n).getD i [])) (tabs n i)
theorem parts_mem {every : List (List Int)} {T P : List Int} : P ∈ partsF every T ↔ P ∈ every ∧ ∀ x ∈ P, x ∈ T := by
  unfold partsF
  rw [List.mem_filter, List.isEmpty_iff, List.filter_eq_nil_iff]
  simp
theorem tabs_mem {n : Nat} : ∀ (i : Nat), i ≤ (menus n).length → ∀ A, A ∈ tabs n i ↔ A.length = i ∧ ∀ j, j < i → A.getD j [] ∈ menus n ∧ ∀ x ∈ A.getD j [], x ∈ (menus n).getD j []
  | 0, _, A => by
    simp only [tabs, List.mem_singleton]
    exact ⟨fun e => by subst e; exact ⟨rfl, fun j h => by omega⟩, fun h => List.eq_nil_of_length_eq_zero h.1⟩
  | i + 1, hi, A => by
    have ih := tabs_mem (n := n) i (by omega)
    simp only [tabs, longF, List.mem_flatMap, List.mem_map, ih, parts_mem]
    constructor
    · rintro ⟨B, ⟨h1, h2⟩, P, ⟨h3, h4⟩, rfl⟩
      refine ⟨by simp [h1], fun j hj => ?_⟩
      by_cases z : j < i
      · rw [List.getD_eq_getElem?_getD, List.getElem?_append_left (by omega), ← List.getD_eq_getElem?_getD]
        exact h2 j z
      · have : j = i := by omega
        subst this
        rw [List.getD_eq_getElem?_getD, List.getElem?_append_right (by omega), h1]
        simpa using ⟨h3, h4⟩
    · rintro ⟨h1, h2⟩
      have hlast : i < A.length := by omega
      have e : A = A.take i ++ [A[i]] := by
        have := List.take_add_one (l := A) (i := i)
        rw [List.take_of_length_le (by omega), List.getElem?_eq_getElem hlast] at this
        simpa using this
      have gi := h2 i (by omega)
      rw [List.getD_eq_getElem?_getD, List.getElem?_eq_getElem hlast] at gi
      refine ⟨A.take i, ⟨by rw [List.length_take]; omega, fun j hj => ?_⟩, A[i], by simpa using gi, e.symm⟩
      rw [List.getD_eq_getElem?_getD, List.getElem?_take_of_lt hj, ← List.getD_eq_getElem?_getD]
      exact h2 j (by omega)
theorem tab_ok {n : Nat} (hn : n ≤ 5) {A : List (List Int)} : A ∈ tabs n (menus n).length ↔ TabOk n A := by
  rw [tabs_mem _ (Nat.le_refl _)]
  unfold TabOk
  refine and_congr_right fun hl => ⟨fun h T hT => ?_, fun h j hj => ?_⟩
  · obtain ⟨j, hj, e⟩ := List.mem_iff_getElem.mp hT
    have := h j hj
    have lk := look_get (A := A) hn (show (menus n)[j]? = some T by rw [List.getElem?_eq_getElem hj, e]) (List.getElem?_eq_getElem (show j < A.length by omega))
    rw [lk]
    rw [List.getD_eq_getElem?_getD, List.getElem?_eq_getElem (show j < A.length by omega), List.getD_eq_getElem?_getD, List.getElem?_eq_getElem hj] at this
    simpa [e] using this
  · have lk := look_get (A := A) hn (List.getElem?_eq_getElem hj) (List.getElem?_eq_getElem (show j < A.length by omega))
    have := h _ (List.getElem_mem hj)
    rw [lk] at this
    rw [List.getD_eq_getElem?_getD, List.getElem?_eq_getElem (show j < A.length by omega), List.getD_eq_getElem?_getD, List.getElem?_eq_getElem hj]
    exact this
theorem tabs_few {n : Nat} (h : n ≤ 3) : ∀ i ≤ (menus n).length, (tabs n i).length ≤ 1000 := by
  match n, h with
  | 0, _ => decide +kernel
  | 1, _ => decide +kernel
  | 2, _ => decide +kernel
  | 3, _ => decide +kernel
/-- over a row of numbers -/
def onT (q : List Int → Bool) : PyData → Bool
  | .tuple l => match intsOf l with
    | some z => q z
    | none => false
  | _ => false
@[simp] theorem onT_tup {q : List Int → Bool} {l : List Int} : onT q (tupI l) = q l := by unfold onT; dsimp only; rw [ints_of]
theorem fil_onT {l : List (List Int)} {q : List Int → Bool} : ((l.map tupI).filter (onT q)).map id = (l.filter q).map tupI := by
  rw [List.map_id, List.filter_map]
  congr 2
  funext x
  exact onT_tup
theorem long_len {parts : List (List Int)} : ∀ (found : List (List (List Int))) (k : Nat), (longF parts (found.take k)).length ≤ (longF parts found).length := fun found k => by
  have e : longF parts found = longF parts (found.take k) ++ longF parts (found.drop k) := by unfold longF; rw [← List.flatMap_append, List.take_append_drop]
  rw [e, List.length_append]
  omega
/-! ### picks of a table -/
def topF (rk l : List Int) : Int := (rk.filter fun y => decide (y ∈ l)).headD 0
theorem head_min {q : Int → Bool} : ∀ {rk : List Int} {x : Int} {r : List Int}, rk.filter q = x :: r → ∀ y ∈ rk, q y = true → rk.idxOf x ≤ rk.idxOf y
  | [], x, r, h, _, _, _ => by simp at h
  | z :: t, x, r, h, y, hy, qy => by
    by_cases qz : q z = true
    · rw [List.filter_cons_of_pos qz] at h
      have : z = x := (List.cons.inj h).1
      subst this
      rw [List.idxOf_cons_self]
      exact Nat.zero_le _
    · rw [List.filter_cons_of_neg qz] at h
      have qx : q x = true := (List.mem_filter.mp (show x ∈ t.filter q by rw [h]; exact List.mem_cons_self)).2
      have nx : z ≠ x := fun e => qz (e ▸ qx)
      have ny : z ≠ y := fun e => qz (e ▸ qy)
      have yt : y ∈ t := (List.mem_cons.mp hy).resolve_left (Ne.symm ny)
      have bx : (z == x) = false := beq_eq_false_iff_ne.mpr nx
      have by_ : (z == y) = false := beq_eq_false_iff_ne.mpr ny
      simp only [List.idxOf_cons, bx, by_, cond_false]
      have := head_min h y yt qy
      omega
theorem top_there {n : Nat} {rk l : List Int} (ho : OrdOk n rk) (hl : l ∈ menus n) : ∃ r, rk.filter (fun y => decide (y ∈ l)) = topF rk l :: r ∧ TopOf rk l (topF rk l) := by
  obtain ⟨y, hy⟩ := List.exists_mem_of_ne_nil _ (menus_mem.mp hl).1
  have rg := (menus_mem.mp hl).2.2
  have mem : ∀ x ∈ l, x ∈ rk := fun x hx => ho.mem_iff.mpr (upTo_mem.mpr (rg x hx))
  have hm : y ∈ rk.filter fun y => decide (y ∈ l) := List.mem_filter.mpr ⟨mem y hy, by simpa using hy⟩
  obtain ⟨x, r, e⟩ := List.exists_cons_of_ne_nil (List.ne_nil_of_mem hm)
  have et : topF rk l = x := by unfold topF; rw [e]; rfl
  rw [et]
  have xl : x ∈ l := by
    have : x ∈ rk.filter fun y => decide (y ∈ l) := by rw [e]; exact List.mem_cons_self
    simpa using (List.mem_filter.mp this).2
  refine ⟨r, e, xl, fun z hz => ?_⟩
  have := head_min e z (mem z hz) (by simpa using hz)
  unfold pos
  omega
theorem top_one {n : Nat} {rk l : List Int} {p : Int} (ho : OrdOk n rk) (hl : l ∈ menus n) (h : TopOf rk l p) : topF rk l = p := by
  obtain ⟨r, _, t⟩ := top_there ho hl
  have rg := (menus_mem.mp hl).2.2
  have a := t.2 p h.1
  have b := h.2 _ t.1
  exact pos_inj ho (rg _ t.1) (rg _ h.1) (by omega)
def makesB (n : Nat) (rk : List Int) (es : List Ent) (A : List (List Int)) : Bool := es.all fun e => topF rk (look n A e.1) == e.2
theorem makes_iff {n : Nat} {rk : List Int} {es : List Ent} {A : List (List Int)} (ho : OrdOk n rk) (ok : EntOk n es) (h : TabOk n A) : makesB n rk es A = true ↔ Makes rk es (look n A) := by
  simp only [makesB, List.all_eq_true, beq_iff_eq]
  refine ⟨fun q e he => ?_, fun q e he => top_one ho (h.2 e.1 (ok e he).1).1 (q e he)⟩
  obtain ⟨r, _, t⟩ := top_there ho (h.2 e.1 (ok e he).1).1
  rw [← q e he]
  exact t
@[simp] theorem backR_nil {r0 r : List Slot} : backR r0 r [] = r := rfl
@[simp] theorem backR_cons {r0 r : List Slot} {v : Nat} {vs : List Nat} : backR r0 r (v :: vs) = (backR r0 r vs).set v (r0.getD v .non) := rfl
/-- rows of i different things of n -/
def RowOk (n i : Nat) (l : List Int) : Prop := l.Nodup ∧ l.length = i ∧ ∀ x ∈ l, 0 ≤ x ∧ x < (n : Int)
theorem row_order {n : Nat} {l : List Int} (h : RowOk n n l) : OrdOk n l := by
  obtain ⟨h1, h2, h3⟩ := h
  have sub : ∀ x ∈ l, x ∈ upTo n := fun x hx => upTo_mem.mpr (h3 x hx)
  have key : ∀ (l m : List Int), l.Nodup → (∀ x ∈ l, x ∈ m) → m.length ≤ l.length → l.Perm m := by
    intro l
    induction l with
    | nil => intro m _ _ hl; have e : m = [] := List.eq_nil_of_length_eq_zero (by simpa using hl); subst e; exact .refl _
    | cons x l ih =>
      intro m nd sb hl
      have xm := sb x List.mem_cons_self
      obtain ⟨a, b, rfl⟩ := List.append_of_mem xm
      obtain ⟨n1, n2⟩ := List.nodup_cons.mp nd
      have p := ih (a ++ b) n2 (fun y hy => by
        have := sb y (List.mem_cons_of_mem _ hy)
        simp only [List.mem_append, List.mem_cons] at this ⊢
        rcases this with q | q | q
        · exact .inl q
        · exact absurd (q ▸ hy) n1
        · exact .inr q) (by simp at hl ⊢; omega)
      exact (p.cons x).trans List.perm_middle.symm
  exact key l _ h1 sub (by rw [upTo_len]; omega)
theorem orders_some {n : Nat} {S : List So} (hn : n ≤ 5) : ∃ F : List (List Int), m__law_orders [.int n] S = .ok (.list (F.map tupI)) S ∧ ∀ l ∈ F, OrdOk n l := by
  suffices h : (m__law_orders [.int n] S).wp fun d S' => S' = S ∧ ∃ F : List (List Int), d = .list (F.map tupI) ∧ ∀ l ∈ F, OrdOk n l by
    cases e : m__law_orders [.int n] S with
    | ok d S' => rw [e] at h; obtain ⟨h1, F, h2, h3⟩ := h; subst h1 h2; exact ⟨F, rfl, h3⟩
    | ex c S' => rw [e] at h; exact h.elim
    | bad => rw [e] at h; exact h.elim
  simp only [m__law_orders]
  rw [wp_fn (by rfl)]
  simp [b__law_orders]
  refine wp_for ?_
  simp
  refine ⟨by omega, forD_wp (fun i s => i ≤ n ∧ ∃ (F : List (List Int)) (a2 a3 a4 a5 : Slot), s = ⟨[.val (.int n), .val (.list (F.map tupI)), a2, a3, a4, a5], S⟩ ∧ (∀ l ∈ F, RowOk n i l) ∧ F.length ≤ 5 ^ i) ?_ ?_ ⟨Nat.zero_le _, [[]], _, _, _, _, rfl, fun l hl => by rw [List.mem_singleton.mp hl]; exact ⟨List.nodup_nil, rfl, fun x h => by cases h⟩, by decide⟩⟩
  · rintro i d s hd ⟨hi, F, a2, a3, a4, a5, rfl, rows, few⟩
    obtain ⟨rfl, hi⟩ := rg_get hd
    have p5 : 5 ^ i ≤ 5 ^ 5 := Nat.pow_le_pow_right (by decide) (by omega)
    simp
    refine wp_for ?_
    simp
    refine forD_wp (fun k s => k ≤ F.length ∧ ∃ (G : List (List Int)) (a4 a5 : Slot), s = ⟨[.val (.int n), .val (.list (F.map tupI)), .val (.int i), .val (.list (G.map tupI)), a4, a5], S⟩ ∧ (∀ l ∈ G, RowOk n (i + 1) l) ∧ G.length ≤ 5 * k) ?_ ?_ ⟨Nat.zero_le _, [], a4, a5, rfl, by simp, by simp⟩
    · rintro k d s hd ⟨hk, G, b4, b5, rfl, rowsG, fewG⟩
      rw [List.getElem?_map] at hd
      obtain ⟨l, hl, rfl⟩ := Option.map_eq_some_iff.mp hd
      have hkF : k < F.length := (List.getElem?_eq_some_iff.mp hl).1
      have rl := rows l (List.mem_of_getElem? hl)
      simp
      refine wp_lc ?_
      simp
      refine ⟨by omega, fun j acc s => j ≤ n ∧ s = ⟨[.val (.int n), .val (.list (F.map tupI)), .val (.int i), .val (.list (G.map tupI)), .val (tupI l), .non], S⟩ ∧ ∃ M : List (List Int), acc = M.map tupI ∧ (∀ r ∈ M, RowOk n (i + 1) r) ∧ M.length ≤ j, ⟨Nat.zero_le _, rfl, [], rfl, by simp, by simp⟩, ?_, ?_⟩
      · rintro j d acc s hd ⟨hj, rfl, M, rfl, rowsM, fewM⟩
        obtain ⟨rfl, hj⟩ := rg_get hd
        simp
        refine ⟨fun ni => ?_, fun _ => ⟨hj, M, rfl, rowsM, by omega⟩⟩
        have e : opAdd (tupI l) (.tuple [.int j]) = some (tupI (l ++ [(j : Int)])) := by
          unfold opAdd tupI
          simp
          rw [rl.2.1]
          omega
        simp [e]
        refine ⟨hj, M ++ [l ++ [(j : Int)]], by simp, fun r hr => ?_, by simp; omega⟩
        rcases List.mem_append.mp hr with hr | hr
        · exact rowsM r hr
        · rw [List.mem_singleton.mp hr]
          refine ⟨List.nodup_append.mpr ⟨rl.1, by simp, fun a ha b hb e => ?_⟩, by simp [rl.2.1], fun x hx => ?_⟩
          · rw [List.mem_singleton.mp hb] at e
            exact ni (e ▸ ha)
          · rcases List.mem_append.mp hx with hx | hx
            · exact rl.2.2 x hx
            · rw [List.mem_singleton.mp hx]; omega
      · rintro acc s ⟨_, rfl, M, rfl, rowsM, fewM⟩
        rw [rg_len] at fewM
        have e : opAdd (.list (G.map tupI)) (.list (M.map tupI)) = some (.list ((G ++ M).map tupI)) := by
          unfold opAdd
          simp
          omega
        simp [e]
        refine ⟨by omega, G ++ M, by simp, fun r hr => ?_, by simp; omega⟩
        rcases List.mem_append.mp hr with hr | hr
        · exact rowsG r hr
        · exact rowsM r hr
    · rintro s ⟨_, G, b4, b5, rfl, rowsG, fewG⟩
      rw [List.length_map] at fewG
      simp
      refine ⟨hi, G, rfl, rowsG, ?_⟩
      rw [Nat.pow_succ]
      omega
  · rintro s ⟨_, F, a2, a3, a4, a5, rfl, rows, _⟩
    rw [rg_len] at rows
    simp
    exact ⟨F, rfl, fun l hl => row_order (rows l hl)⟩
theorem inD_strs {x : Str} {l : List Str} : opNotIn (.str x) (.list (l.map .str)) = some (.bool (!decide (x ∈ l))) := by
  unfold opNotIn inD
  have fl : (l.map PyData.str).all flatD = true := by simp [List.all_map, flatD]
  have e : (l.map PyData.str).any (fun z => PyData.eqv z (.str x)) = decide (x ∈ l) := by
    rw [List.any_map, Bool.eq_iff_iff, List.any_eq_true, decide_eq_true_eq]
    constructor
    · rintro ⟨y, hy, q⟩
      have q' : (y == x) = true := q
      rw [← eq_of_beq q']; exact hy
    · intro hx
      exact ⟨x, hx, show (x == x) = true from beq_self_eq_true x⟩
  simp only [itemsOf, Option.bind_some, fl, Bool.and_true]
  rw [if_pos (by rfl), e]
  rfl
theorem rep_tab {n : Nat} {A : List (List Int)} (hn : n ≤ 5) (h : TabOk n A) : Rep 2 10000 (tabD A) := by
  have ml := menus_len hn
  refine (rep_tup (k := 1) (m := 113) (n := 31) (fun d hd => ?_) (by rw [List.length_map, h.1]; exact ml)).mono (by decide) (by decide)
  obtain ⟨P, hP, rfl⟩ := List.mem_map.mp hd
  obtain ⟨i, hi, e⟩ := List.mem_iff_getElem.mp hP
  have lk := look_get (A := A) hn (List.getElem?_eq_getElem (show i < (menus n).length by rw [← h.1]; exact hi)) (List.getElem?_eq_getElem hi)
  have pm := (h.2 _ (List.getElem_mem (show i < (menus n).length by rw [← h.1]; exact hi))).1
  rw [lk, e] at pm
  have mk := menus_ok hn P pm
  exact rep_tupI (n := 5) (fun x hx => by have := mk.rg x hx; omega) (by have := mk.len; omega)
/-! ### records and their parts -/
theorem lex_irr : ∀ (a : List Int), HT.lexLt a a = false
  | [] => rfl
  | x :: a => by rw [HT.lexLt_cons, if_pos rfl]; exact lex_irr a
theorem lex_trans : ∀ {a b c : List Int}, HT.lexLt a b = true → HT.lexLt b c = true → HT.lexLt a c = true
  | [], _, [], h, h' => by
    rename_i b
    cases b with
    | nil => exact h
    | cons => cases h'
  | [], _, _ :: _, _, _ => rfl
  | _ :: _, [], _, h, _ => by cases h
  | _ :: _, _ :: _, [], _, h' => by cases h'
  | x :: a, y :: b, z :: c, h, h' => by
    rw [HT.lexLt_cons] at h h' ⊢
    by_cases e1 : x = y
    · subst e1
      rw [if_pos rfl] at h
      by_cases e2 : x = z
      · subst e2
        rw [if_pos rfl] at h' ⊢
        exact lex_trans h h'
      · rw [if_neg e2] at h' ⊢
        exact h'
    · rw [if_neg e1, decide_eq_true_eq] at h
      by_cases e2 : y = z
      · subst e2
        rw [if_neg e1, decide_eq_true_eq]
        exact h
      · rw [if_neg e2, decide_eq_true_eq] at h'
        rw [if_neg (by omega), decide_eq_true_eq]
        omega
theorem lex_tot : ∀ {a b : List Int}, a ≠ b → HT.lexLt a b = true ∨ HT.lexLt b a = true
  | [], [], h => absurd rfl h
  | [], _ :: _, _ => .inl rfl
  | _ :: _, [], _ => .inr rfl
  | x :: a, y :: b, h => by
    rw [HT.lexLt_cons, HT.lexLt_cons]
    by_cases e : x = y
    · subst e
      rw [if_pos rfl, if_pos rfl]
      exact lex_tot fun z => h (by rw [z])
    · rw [if_neg e, if_neg (Ne.symm e), decide_eq_true_eq, decide_eq_true_eq]
      omega
theorem lex_ne {a b : List Int} (h : HT.lexLt a b = true) : a ≠ b := fun e => by rw [e, lex_irr] at h; cases h
theorem lex_asy {a b : List Int} (h : HT.lexLt a b = true) : HT.lexLt b a = false := by
  cases q : HT.lexLt b a with
  | false => rfl
  | true => have := lex_trans h q; rw [lex_irr] at this; cases this
theorem lexLt_lt : ∀ (a b : List Int), decide (a < b) = HT.lexLt a b
  | [], [] => by simp [HT.lexLt]
  | [], y :: b => by simp [HT.lexLt]
  | x :: a, [] => by simp [HT.lexLt]
  | x :: a, y :: b => by
    have ih := lexLt_lt a b
    rw [HT.lexLt_cons]
    by_cases h : x = y
    · subst h
      rw [if_pos rfl, ← ih]
      simp [List.cons_lt_cons_iff]
    · rw [if_neg h]
      simp [List.cons_lt_cons_iff, h]
/-- sorted rows out of a sorted row -/
theorem sub_of_sorted {α : Type} {lt : α → α → Bool} (ir : ∀ a, lt a a = false) (as : ∀ a b, lt a b = true → lt b a = false) : ∀ {l L : List α}, l.Pairwise (fun a b => lt a b = true) → L.Pairwise (fun a b => lt a b = true) → (∀ x ∈ l, x ∈ L) → l.Sublist L
  | [], L, _, _, _ => List.nil_sublist L
  | x :: l, [], _, _, h => by have := h x List.mem_cons_self; simp at this
  | x :: l, y :: L, hl, hL, h => by
    obtain ⟨l1, l2⟩ := List.pairwise_cons.mp hl
    obtain ⟨L1, L2⟩ := List.pairwise_cons.mp hL
    by_cases e : ∃ _ : x = y, True
    · obtain ⟨e, _⟩ := e
      subst e
      refine (sub_of_sorted ir as l2 L2 fun z hz => ?_).cons_cons x
      rcases List.mem_cons.mp (h z (List.mem_cons_of_mem _ hz)) with q | q
      · subst q
        have := l1 z hz
        rw [ir] at this
        cases this
      · exact q
    · have ne : x ≠ y := fun z => e ⟨z, trivial⟩
      refine (sub_of_sorted ir as hl L2 fun z hz => ?_).cons y
      rcases List.mem_cons.mp (h z hz) with q | q
      · subst q
        rcases List.mem_cons.mp hz with q | q
        · exact absurd q.symm ne
        · have a := l1 z q
          rcases List.mem_cons.mp (h x List.mem_cons_self) with q2 | q2
          · exact absurd q2 ne
          · have b := L1 x q2
            rw [as _ _ a] at b
            cases b
      · exact q
theorem menus_in {n : Nat} {m : List Int} (h : MenuOk n m) : m ∈ menus n := menus_mem.mpr ⟨h.ne, h.up, h.rg⟩
theorem RecOk.sub {n : Nat} {es : List Ent} (h : RecOk n es) : (es.map (·.1)).Sublist (menus n) := by
  have n5 := h.n5
  refine sub_of_sorted lex_irr (fun a b => lex_asy) (by rw [List.pairwise_map]; exact h.up) (menus_up (by omega)) fun m hm => ?_
  obtain ⟨e, he, rfl⟩ := List.mem_map.mp hm
  exact menus_in (h.ent e he).1
theorem RecOk.rep {n : Nat} {es : List Ent} (h : RecOk n es) : Rep 4 100000 (recD n es) := by
  have := h.n5
  exact rep_rec (by omega) h.sub fun e he => (h.ent e he).2
theorem RecOk.len {n : Nat} {es : List Ent} (h : RecOk n es) : es.length ≤ 31 := by
  have n5 := h.n5
  have h1 := h.sub.length_le
  have h2 := menus_len (n := n) (by omega)
  rw [List.length_map] at h1
  omega
theorem RecOk.nodup {n : Nat} {es : List Ent} (h : RecOk n es) : (es.map (·.1)).Nodup := by
  unfold List.Nodup
  rw [List.pairwise_map]
  exact h.up.imp fun q => lex_ne q
theorem RecOk.filter {n : Nat} {es : List Ent} (h : RecOk n es) (p : Ent → Bool) : RecOk n (es.filter p) := ⟨h.n1, h.n5, fun e he => h.ent e (List.mem_filter.mp he).1, h.up.filter p⟩
theorem RecOk.sublist {n : Nat} {es fs : List Ent} (h : RecOk n es) (s : fs.Sublist es) : RecOk n fs := ⟨h.n1, h.n5, fun e he => h.ent e (s.subset he), h.up.sublist s⟩
/-! ### the pick from a menu -/
def pickF (es : List Ent) (m : List Int) : Option Int := (es.find? fun e => decide (e.1 = m)).map (·.2)
def optD : Option Int → PyData
  | some p => .int p
  | none => .none
theorem dGet_es (m : List Int) : ∀ es : List Ent, (dGet (es.map fun e => tupZ e.1) (es.map fun e => .int e.2) m).getD .none = optD (pickF es m)
  | [] => rfl
  | e :: es => by
    have ih := dGet_es m es
    rw [List.map_cons, List.map_cons]
    unfold dGet pickF
    rw [tupInts_map, List.find?_cons]
    by_cases h : e.1 = m
    · simp [h, optD]
    · rw [if_neg fun z => h (Option.some.inj z), ih]
      simp [h, pickF]
/-! ### one entry more -/
/-- into its place -/
def insE (e : Ent) : List Ent → List Ent
  | [] => [e]
  | f :: r => if HT.lexLt e.1 f.1 = true then e :: f :: r else f :: insE e r
def withF (es : List Ent) (m : List Int) (p : Int) : List Ent := insE (m, p) (es.filter fun e => !decide (e.1 = m))
theorem insE_perm (e : Ent) : ∀ l : List Ent, (insE e l).Perm (l ++ [e])
  | [] => .refl _
  | f :: r => by
    unfold insE
    split
    · exact (List.perm_append_comm (l₁ := [e]) (l₂ := f :: r))
    · exact (insE_perm e r).cons f
theorem insE_mem {e x : Ent} {l : List Ent} : x ∈ insE e l ↔ x = e ∨ x ∈ l := by
  rw [(insE_perm e l).mem_iff]
  simp [or_comm]
theorem insE_up {e : Ent} : ∀ {l : List Ent}, l.Pairwise (fun a b => HT.lexLt a.1 b.1 = true) → (∀ f ∈ l, f.1 ≠ e.1) → (insE e l).Pairwise fun a b => HT.lexLt a.1 b.1 = true
  | [], _, _ => List.pairwise_singleton _ _
  | f :: r, h, hn => by
    obtain ⟨h1, h2⟩ := List.pairwise_cons.mp h
    unfold insE
    split
    · rename_i q
      refine List.pairwise_cons.mpr ⟨fun x hx => ?_, h⟩
      rcases List.mem_cons.mp hx with rfl | hx
      · exact q
      · exact lex_trans q (h1 x hx)
    · rename_i q
      refine List.pairwise_cons.mpr ⟨fun x hx => ?_, insE_up h2 fun g hg => hn g (List.mem_cons_of_mem _ hg)⟩
      rcases insE_mem.mp hx with rfl | hx
      · rcases lex_tot (hn f List.mem_cons_self) with z | z
        · exact z
        · exact absurd z q
      · exact h1 x hx
theorem fil_ne {es : List Ent} {m : List Int} : ∀ f ∈ es.filter (fun e => !decide (e.1 = m)), f.1 ≠ m := fun f hf => by simpa using (List.mem_filter.mp hf).2
theorem withF_ok {n : Nat} {es : List Ent} {m : List Int} {p : Int} (h : RecOk n es) (hm : MenuOk n m) (hp : p ∈ m) : RecOk n (withF es m p) :=
  ⟨h.n1, h.n5, fun e he => by
    rcases insE_mem.mp he with rfl | he
    · exact ⟨hm, hp⟩
    · exact h.ent e (List.mem_filter.mp he).1, insE_up (h.filter _).up fil_ne⟩
theorem lt_ent {a b : Ent} (h : HT.lexLt a.1 b.1 = true) : dataLt (entD a) (entD b) = true := by
  show dataLt (.tuple [tupI a.1, .int a.2]) (.tuple [tupI b.1, .int b.2]) = true
  rw [dataLt_tuple, dataLt_cons (by simp [alike, alikeAll, alike_int])]
  have e : PyData.eqv (tupI a.1) (tupI b.1) = false := by rw [eqv_tupI]; exact decide_eq_false (lex_ne h)
  rw [e, if_neg Bool.false_ne_true, lt_tupI, lexLt_lt]
  exact h
theorem lay_ent {e : Ent} : lay 2 (entD e) := lay_tup (k := 1) fun d hd => by
  simp only [List.mem_cons, List.not_mem_nil, or_false] at hd
  rcases hd with rfl | rfl
  · exact lay_tupI
  · exact lay_int
theorem alike_ent {a b : Ent} : alike (entD a) (entD b) = true := by simp [entD, alike, alikeAll, alike_int]
theorem sorted_ents {l m : List Ent} (p : l.Perm m) (s : m.Pairwise fun a b => HT.lexLt a.1 b.1 = true) : opSorted [.list (l.map entD)] = some (m.map entD) := by
  have ok : sortOk (l.map entD) = true := sortOk_of (k := 2) (fun d hd => by obtain ⟨i, _, rfl⟩ := List.mem_map.mp hd; exact lay_ent) (by decide)
    (fun a ha b hb => by obtain ⟨i, _, rfl⟩ := List.mem_map.mp ha; obtain ⟨j, _, rfl⟩ := List.mem_map.mp hb; exact alike_ent)
    (by
      unfold sortKinds
      have : (l.map entD).all isTup1 = true := by simp [List.all_map, isTup1, entD]
      rw [this]; simp)
  have e : srt (l.map entD) = m.map entD := srt_perm (p.map _) (by rw [List.pairwise_map]; exact s.imp fun h => lt_ent h)
  unfold opSorted; simp [itemsOf, ok, e]
/-- an entry's test, over data -/
def onE (q : Ent → Bool) : PyData → Bool
  | .tuple [.tuple l, .int p] => q ((intsOf l).getD [], p)
  | _ => false
theorem onE_ent {q : Ent → Bool} {e : Ent} : onE q (entD e) = q e := by simp [onE, entD, ints_of]
theorem fil_ent {es : List Ent} {q : Ent → Bool} : ((es.map entD).filter (onE q)).map id = (es.filter q).map entD := by
  rw [List.map_id, List.filter_map]
  congr 2
  funext e
  exact onE_ent
/-! ### entries fewer -/
def woF (es : List Ent) (ps : List Int) : List Ent := ((List.range es.length).filter fun (k : Nat) => !decide ((k : Int) ∈ ps)).map (ev es)
def woT (es : List Ent) (ps : List Int) (i : Nat) : List PyData := (((List.range i).filter fun (k : Nat) => !decide ((k : Int) ∈ ps)).map (ev es)).map entD
theorem woT_yes {es : List Ent} {ps : List Int} {i : Nat} {e : Ent} (h : es[i]? = some e) (q : ¬ (i : Int) ∈ ps) : woT es ps (i + 1) = woT es ps i ++ [entD e] := by
  unfold woT
  rw [List.range_succ, List.filter_append, List.map_append, List.map_append]
  simp [q, ev_at h]
theorem woT_no {es : List Ent} {ps : List Int} {i : Nat} (q : (i : Int) ∈ ps) : woT es ps (i + 1) = woT es ps i := by
  unfold woT
  rw [List.range_succ, List.filter_append, List.map_append, List.map_append]
  simp [q]
theorem range_sub : ∀ (l : List Ent) (n : Nat), n ≤ l.length → ((List.range n).map (ev l)) = l.take n := by
  intro l n
  induction n with
  | zero => intro; simp
  | succ n ih =>
    intro h
    rw [List.range_succ, List.map_append, ih (by omega), List.take_add_one, List.getElem?_eq_getElem (by omega)]
    simp [ev_at (List.getElem?_eq_getElem (show n < l.length by omega))]
theorem woF_sub (es : List Ent) (ps : List Int) : (woF es ps).Sublist es := by
  have h : (List.range es.length).map (ev es) = es := by rw [range_sub es _ (Nat.le_refl _), List.take_length]
  conv => rhs; rw [← h]
  exact (List.filter_sublist).map _
theorem good_of {ns : List Int} (h : (m_law [scr ns] []).wp fun d _ => d = .bool true) : ∃ S, m_law [scr ns] [] = .ok (.bool true) S := by
  cases e : m_law [scr ns] [] with
  | ok d S => rw [e] at h; exact ⟨S, by rw [show d = .bool true from h]⟩
  | ex c S => rw [e] at h; exact h.elim
  | bad => rw [e] at h; exact h.elim
theorem rep_optD {o : Option Int} (h : ∀ p ∈ o, p.natAbs < 1000000000000000000) : Rep 0 20 (optD o) := by
  cases o with
  | none => exact rep_none.mono (by decide) (by decide)
  | some p => exact rep_int (h p rfl)
theorem inD_tups {m : List Int} : ∀ l : List (List Int), (l.map tupI).any (fun z => PyData.eqv z (tupI m)) = decide (m ∈ l)
  | [] => rfl
  | a :: l => by
    rw [List.map_cons, List.any_cons, inD_tups l, eqv_tupI]
    by_cases h : a = m
    · subst h; simp
    · have : ¬ m = a := fun z => h z.symm
      simp [h, this]
theorem opIn_tups {m : List Int} {l : List (List Int)} : opIn (tupI m) (.list (l.map tupI)) = some (.bool (decide (m ∈ l))) := by
  have s1 : shp (tupI m) = true := lay_shp (k := 1) lay_tupI (by decide)
  have s2 : shp (.list (l.map tupI)) = true := lay_shp (k := 2) (lay_list fun d hd => by obtain ⟨i, _, rfl⟩ := List.mem_map.mp hd; exact lay_tupI) (by decide)
  unfold opIn inD
  simp only [itemsOf, Option.bind_some, s1, s2, inD_tups]
  simp [flatD]
theorem ixDeep_tups {m : List Int} {l : List (List Int)} (h : m ∈ l) : ixDeep (tupI m) (l.map tupI) = some (.int (l.idxOf m : Nat)) := by
  have s1 : shp (tupI m) = true := lay_shp (k := 1) lay_tupI (by decide)
  have s2 : shp (.list (l.map tupI)) = true := lay_shp (k := 2) (lay_list fun d hd => by obtain ⟨i, _, rfl⟩ := List.mem_map.mp hd; exact lay_tupI) (by decide)
  unfold ixDeep
  rw [s1, s2, ixOf_tup l 0 h]
  simp
/-- the pick, as the law looks it up -/
theorem pickF_known : ∀ {es : List Ent} {m : List Int}, m ∈ es.map (·.1) → ∃ p, es[(es.map (·.1)).idxOf m]? = some (m, p) ∧ pickF es m = some p
  | [], _, h => by simp at h
  | e :: es, m, h => by
    obtain ⟨a, b⟩ := e
    by_cases q : a = m
    · subst q
      exact ⟨b, by simp, by simp [pickF]⟩
    · have hm : m ∈ es.map (·.1) := by
        rcases List.mem_cons.mp (show m ∈ a :: es.map (·.1) from h) with z | z
        · exact absurd z.symm q
        · exact z
      obtain ⟨p, h1, h2⟩ := pickF_known hm
      refine ⟨p, ?_, ?_⟩
      · rw [List.map_cons, List.idxOf_cons]
        have : (a == m) = false := beq_eq_false_iff_ne.mpr q
        simp [this, h1]
      · unfold pickF at *
        simp [List.find?_cons, q, h2]
theorem pickF_no {es : List Ent} {m : List Int} (h : m ∉ es.map (·.1)) : pickF es m = none := by
  unfold pickF
  have : es.find? (fun e => decide (e.1 = m)) = none := by
    rw [List.find?_eq_none]
    intro e he q
    exact h (List.mem_map.mpr ⟨e, he, by simpa using q⟩)
  rw [this]; rfl
theorem pickF_in {es : List Ent} {m : List Int} {p : Int} (h : pickF es m = some p) : (m, p) ∈ es := by
  unfold pickF at h
  obtain ⟨e, he, rfl⟩ := Option.map_eq_some_iff.mp h
  have h1 := List.mem_of_find?_eq_some he
  have h2 : e.1 = m := by simpa using List.find?_some he
  obtain ⟨a, b⟩ := e
  subst h2
  exact h1
theorem at_drawn {α : Type} {l : List α} {f : α → PyData} {v : Int} (h0 : 0 ≤ v) (h1 : v < l.length) : ∃ x, l[v.toNat]? = some x ∧ x ∈ l ∧ atI (l.map f) v = some (f x) := by
  have e : l[v.toNat]? = some (l[v.toNat]'(by omega)) := List.getElem?_eq_getElem (by omega)
  refine ⟨_, e, List.mem_of_getElem? e, ?_⟩
  have := ix_nat (show (l.map f)[v.toNat]? = some (f (l[v.toNat]'(by omega))) by rw [List.getElem?_map, e]; rfl)
  rw [show ((v.toNat : Nat) : Int) = v by omega] at this
  exact this
@[simp] theorem pack_1 {d : PyData} : packD 1 [d] = [d, .tuple []] := rfl
@[simp] theorem pack_12 {d e : PyData} : packD 1 [d, e] = [d, .tuple [e]] := rfl
@[simp] theorem pack_14 {d e f g : PyData} : packD 1 [d, e, f, g] = [d, .tuple [e, f, g]] := rfl
theorem woF_nil (es : List Ent) : woF es [] = es := by
  unfold woF
  have q : (List.range es.length).filter (fun (k : Nat) => !decide ((k : Int) ∈ ([] : List Int))) = List.range es.length := by simp
  rw [q, range_sub es _ (Nat.le_refl _), List.take_length]
theorem woF_rec {n : Nat} {es : List Ent} (h : RecOk n es) (ps : List Int) : RecOk n (woF es ps) := h.sublist (woF_sub es ps)
theorem known_of (es : List Ent) : (es.map entD).map (fun d => match d with | .tuple [m, _] => m | d => d) = (es.map (·.1)).map tupI := by
  rw [List.map_map, List.map_map]
  rfl
theorem all_onI {l : List Int} {q : Int → Bool} : (l.map PyData.int).all (onI q) = l.all q := by rw [List.all_map]; rfl
/-- the parts of an attention, one by one -/
theorem TabOk.part {n i : Nat} {A : List (List Int)} (h5 : n ≤ 5) (h : TabOk n A) {T P : List Int} (hT : (menus n)[i]? = some T) (hP : A[i]? = some P) : P ∈ menus n ∧ ∀ x ∈ P, x ∈ T := by
  have := h.2 T (List.mem_of_getElem? hT)
  rw [look_get h5 hT hP] at this
  exact this
/-! ### where it breaks the rule -/
def badAt (n : Nat) (A : List (List Int)) (T : List Int) (x : Int) : Bool := !decide (x ∈ look n A T) && !decide (look n A (lessF T x) = look n A T)
/-- the first thing of a menu, the first menu and thing -/
def badIn (n : Nat) (A : List (List Int)) (T : List Int) : Option Int := T.find? (badAt n A T)
def badF (n : Nat) (A : List (List Int)) : Option (List Int × Int) := (menus n).findSome? fun T => (badIn n A T).map fun x => (T, x)
def brD : Option (List Int × Int) → PyData
  | some (T, x) => .tuple [tupI T, .int x]
  | none => .none
theorem findSome_at {α β : Type} {f : α → Option β} : ∀ {l : List α} {i : Nat} {a : α} {b : β}, l[i]? = some a → f a = some b → (∀ j, j < i → ∀ c, l[j]? = some c → f c = none) → l.findSome? f = some b
  | [], _, _, _, h, _, _ => by simp at h
  | x :: l, 0, a, b, h, e, _ => by
    simp at h; subst h
    rw [List.findSome?_cons, e]
  | x :: l, i + 1, a, b, h, e, no => by
    have := no 0 (by omega) x rfl
    rw [List.findSome?_cons, this]
    exact findSome_at (by simpa using h) e fun j hj c hc => no (j + 1) (by omega) c (by simpa using hc)
theorem findSome_no {α β : Type} {f : α → Option β} {l : List α} (no : ∀ j, j < l.length → ∀ c, l[j]? = some c → f c = none) : l.findSome? f = none := by
  rw [List.findSome?_eq_none_iff]
  intro a ha
  obtain ⟨j, hj, rfl⟩ := List.mem_iff_getElem.mp ha
  exact no j hj _ (List.getElem?_eq_getElem hj)
theorem find_at {α : Type} {p : α → Bool} : ∀ {l : List α} {i : Nat} {a : α}, l[i]? = some a → p a = true → (∀ j, j < i → ∀ c, l[j]? = some c → p c = false) → l.find? p = some a
  | [], _, _, h, _, _ => by simp at h
  | x :: l, 0, a, h, e, _ => by
    simp at h; subst h
    rw [List.find?_cons, e]
  | x :: l, i + 1, a, h, e, no => by
    have := no 0 (by omega) x rfl
    rw [List.find?_cons, this]
    exact find_at (by simpa using h) e fun j hj c hc => no (j + 1) (by omega) c (by simpa using hc)
theorem find_no {α : Type} {p : α → Bool} {l : List α} (no : ∀ j, j < l.length → ∀ c, l[j]? = some c → p c = false) : l.find? p = none := by
  rw [List.find?_eq_none]
  intro a ha
  obtain ⟨j, hj, rfl⟩ := List.mem_iff_getElem.mp ha
  rw [no j hj _ (List.getElem?_eq_getElem hj)]
  exact Bool.false_ne_true
theorem zip_map : ∀ (a b : List (List Int)), zipD (a.map tupI) (b.map tupI) = (a.zip b).map fun p => PyData.tuple [tupI p.1, tupI p.2]
  | [], _ => by cases ‹List (List Int)› <;> rfl
  | _ :: _, [] => rfl
  | x :: a, y :: b => by
    rw [List.map_cons, List.map_cons, List.zip_cons_cons, List.map_cons]
    show _ :: zipD (a.map tupI) (b.map tupI) = _
    rw [zip_map a b]
theorem dGet_tab : ∀ {ms A : List (List Int)} {T : List Int}, A.length = ms.length → T ∈ ms → dGet (ms.map tupZ) (A.map tupI) T = some (tupI (A.getD (ms.idxOf T) []))
  | [], _, _, _, h => by simp at h
  | m :: ms, [], _, h, _ => by simp at h
  | m :: ms, P :: A, T, hl, h => by
    rw [List.map_cons, List.map_cons]
    unfold dGet
    rw [tupInts_map, List.idxOf_cons]
    by_cases e : m = T
    · subst e
      simp
    · have eb : (m == T) = false := beq_eq_false_iff_ne.mpr e
      rw [if_neg fun z => e (Option.some.inj z), eb, dGet_tab (by simpa using hl)]
      · simp
      · rcases List.mem_cons.mp h with z | z
        · exact absurd z.symm e
        · exact z
theorem TabOk.menu_less {n : Nat} {A : List (List Int)} (h : TabOk n A) {T : List Int} (hT : T ∈ menus n) {x : Int} (hx : x ∉ look n A T) : lessF T x ∈ menus n := less_menu h.2 hT hx
/-- the entries of a ranking and an attention -/
def madeF (n : Nat) (rk : List Int) (A : List (List Int)) : List Ent := (menus n).map fun T => (T, topF rk (look n A T))
theorem bad_iff {n : Nat} {A : List (List Int)} : badF n A = none ↔ Steady n (look n A) := by
  unfold badF Steady
  rw [List.findSome?_eq_none_iff]
  refine forall_congr' fun T => forall_congr' fun _ => ?_
  rw [Option.map_eq_none_iff]
  unfold badIn
  rw [List.find?_eq_none]
  refine forall_congr' fun x => forall_congr' fun _ => ?_
  unfold badAt
  by_cases h : x ∈ look n A T <;> simp [h]
/-- a list of one's own, if it is one -/
def onOwn (o : Option Slot) (P : List PyData → Prop) : Prop := match o with
  | some (.own l) => P l
  | _ => False
@[simp] theorem onOwn_some {l : List PyData} {P : List PyData → Prop} : onOwn (some (.own l)) P ↔ P l := Iff.rfl
@[simp] theorem wp_setO {i : Nat} {fb fv : ED} {st : Sta} {N B T : Sta → Prop} {R : PyData → Sta → Prop} : (sSetO i fb fv st).wp N R B T ↔ (fv st).wp fun v s1 => onOwn s1.r[i]? fun _ => (fb s1).wp fun k s2 => onOwn s2.r[i]? fun l => ∃ j, k = .int j ∧ ∃ n, ixN l.length j = some n ∧ N { s2 with r := s2.r.set i (.own (l.set n v)) } := by
  unfold sSetO
  rw [wp_run]
  refine ⟨fun h => wp_mono h fun v s1 z => ?_, fun h => wp_mono h fun v s1 z => ?_⟩
  · cases e1 : s1.r[i]? with
    | none => rw [e1] at z; exact z.elim
    | some t =>
      rw [e1] at z
      cases t with
      | own l0 =>
        refine wp_mono (wp_run.mp z) fun k s2 z => ?_
        cases e2 : s2.r[i]? with
        | none => rw [e2] at z; exact z.elim
        | some t2 =>
          rw [e2] at z
          cases t2 with
          | own l =>
            cases k with
            | int j =>
              dsimp only at z
              cases e3 : ixN l.length j with
              | none => rw [e3] at z; exact z.elim
              | some n => rw [e3] at z; exact ⟨j, rfl, n, e3, z⟩
            | _ => exact z.elim
          | _ => exact z.elim
      | _ => exact z.elim
  · cases e1 : s1.r[i]? with
    | none => rw [e1] at z; exact z.elim
    | some t =>
      rw [e1] at z
      cases t with
      | own l0 =>
        refine wp_run.mpr (wp_mono z fun k s2 z => ?_)
        cases e2 : s2.r[i]? with
        | none => rw [e2] at z; exact z.elim
        | some t2 =>
          rw [e2] at z
          cases t2 with
          | own l =>
            obtain ⟨j, rfl, n, e3, z⟩ := z
            dsimp only
            rw [e3]
            exact z
          | _ => exact z.elim
      | _ => exact z.elim
theorem ixN_of {n j : Nat} (hj : j < n) : ixN n (j : Int) = some j := by
  unfold ixN
  rw [if_pos (by omega), if_pos (by omega)]
  simp
/-! ### attentions, drawn by a law -/
theorem menu_sub {n : Nat} {T P : List Int} (hT : T ∈ menus n) (s : P.Sublist T) (ne : P ≠ []) : P ∈ menus n := by
  obtain ⟨_, h2, h3⟩ := menus_mem.mp hT
  exact menus_mem.mpr ⟨ne, h2.sublist s, fun x hx => h3 x (s.subset hx)⟩
theorem noticed_menu {n : Nat} {hid ord T : List Int} {k : Int} (h5 : n ≤ 5) (ho : OrdOk n ord) (hT : T ∈ menus n) (h1 : 1 ≤ k) : noticedF hid ord k T ∈ menus n ∧ ∀ x ∈ noticedF hid ord k T, x ∈ T := by
  obtain ⟨ne, sub⟩ := noticed_sub (hid := hid) ho (menus_ok h5 T hT) h1
  refine ⟨menus_mem.mpr ⟨ne, ?_, fun x hx => (menus_mem.mp hT).2.2 x (sub x hx)⟩, sub⟩
  unfold noticedF
  split
  · exact sortZ_up (((ho.nodup).filter _).sublist (List.take_sublist _ _))
  · split
    · exact (menus_mem.mp hT).2.1
    · exact (menus_mem.mp hT).2.1.filter _
theorem tabOk_map {n : Nat} {f : List Int → List Int} (h5 : n ≤ 5) (h : ∀ T ∈ menus n, f T ∈ menus n ∧ ∀ x ∈ f T, x ∈ T) : TabOk n ((menus n).map f) :=
  ⟨List.length_map _, fun T hT => by rw [look_map h5 hT]; exact h T hT⟩
theorem tabOk_of {n : Nat} {A : List (List Int)} (h5 : n ≤ 5) (hl : A.length = (menus n).length) (h : ∀ (j : Nat) (T P : List Int), (menus n)[j]? = some T → A[j]? = some P → P ∈ menus n ∧ ∀ x ∈ P, x ∈ T) : TabOk n A := by
  refine ⟨hl, fun T hT => ?_⟩
  obtain ⟨j, hj, rfl⟩ := List.mem_iff_getElem.mp hT
  have e1 := List.getElem?_eq_getElem hj
  have e2 := List.getElem?_eq_getElem (show j < A.length by omega)
  rw [look_get h5 e1 e2]
  exact h j _ _ e1 e2
theorem take_snoc {α : Type} {l : List α} {i : Nat} {x : α} (h : l[i]? = some x) : l.take (i + 1) = l.take i ++ [x] := by rw [List.take_add_one, h]; rfl
/-- of each menu a part -/
def PartOk (n i : Nat) (A : List (List Int)) : Prop := A.length = i ∧ ∀ (j : Nat) (T P : List Int), (menus n)[j]? = some T → A[j]? = some P → P ∈ menus n ∧ ∀ x ∈ P, x ∈ T
theorem PartOk.snoc {n i : Nat} {A : List (List Int)} {T P : List Int} (h : PartOk n i A) (hT : (menus n)[i]? = some T) (hP : P ∈ menus n) (hs : ∀ x ∈ P, x ∈ T) : PartOk n (i + 1) (A ++ [P]) := by
  refine ⟨by rw [List.length_append, h.1]; rfl, fun j T' P' hT' hP' => ?_⟩
  by_cases z : j < A.length
  · rw [List.getElem?_append_left z] at hP'
    exact h.2 j T' P' hT' hP'
  · rw [List.getElem?_append_right (by omega)] at hP'
    have ej : j = i := by
      have := (List.getElem?_eq_some_iff.mp hP').1
      have := h.1
      simp at *
      omega
    subst ej
    rw [hT] at hT'
    cases hT'
    rw [h.1] at hP'
    simp at hP'
    subst hP'
    exact ⟨hP, hs⟩
/-! ### where the rule is broken, by a law -/
theorem badIn_eq {n : Nat} {A : List (List Int)} {T : List Int} : badIn n A T = (T.filter fun x => !decide (x ∈ look n A T)).find? fun x => !decide (look n A (lessF T x) = look n A T) := by
  unfold badIn
  rw [List.find?_filter]
  congr 1
  funext x
  unfold badAt
  rw [Bool.decide_and, Bool.decide_eq_true, Bool.decide_eq_true]
theorem badF_in {n : Nat} {A : List (List Int)} {T : List Int} {x : Int} (h : badF n A = some (T, x)) : T ∈ menus n ∧ x ∈ T := by
  unfold badF at h
  obtain ⟨T', hT', e⟩ := List.exists_of_findSome?_eq_some h
  obtain ⟨y, hy, q⟩ := Option.map_eq_some_iff.mp e
  cases q
  exact ⟨hT', List.mem_of_find?_eq_some hy⟩
theorem rep_br {n : Nat} {A : List (List Int)} (h5 : n ≤ 5) : Rep 2 300 (brD (badF n A)) := by
  cases h : badF n A with
  | none => exact rep_none.mono (by decide) (by decide)
  | some p =>
    obtain ⟨T, x⟩ := p
    obtain ⟨hT, hx⟩ := badF_in h
    have mok := menus_ok h5 T hT
    have l5 := mok.len
    have rt : Rep 1 (22 * 5 + 3) (tupI T) := rep_tupI (fun y hy => by have := mok.rg y hy; omega) (by omega)
    have rx := mok.rg x hx
    refine (rep_tup (k := 1) (m := 22 * 5 + 3) (n := 2) (fun d hd => ?_) (by simp)).mono (by decide) (by decide)
    simp only [List.mem_cons, List.not_mem_nil, or_false] at hd
    rcases hd with rfl | rfl
    · exact rt
    · exact (rep_int (by omega)).mono (by decide) (by decide)
theorem top_in {n : Nat} {rk l : List Int} (ho : OrdOk n rk) (hl : l ∈ menus n) : topF rk l ∈ l := (top_there ho hl).choose_spec.2.1
theorem made_rec {n : Nat} {rk : List Int} {A : List (List Int)} (h1 : 1 ≤ n) (h5 : n ≤ 5) (ho : OrdOk n rk) (h : TabOk n A) : RecOk n (madeF n rk A) := by
  refine rec_of h1 h5 ?_ fun e he => ?_
  · unfold madeF
    rw [List.map_map]
    have : (menus n).map ((fun x : Ent => x.1) ∘ fun T => (T, topF rk (look n A T))) = menus n := by
      conv => rhs; rw [← List.map_id (menus n)]
      rfl
    rw [this]
    exact List.Sublist.refl _
  · obtain ⟨T, hT, rfl⟩ := List.mem_map.mp he
    obtain ⟨a, b⟩ := h.2 T hT
    exact b _ (top_in ho a)
/-- what of m is not in o and lower than t -/
def belF (rk m o : List Int) (t : Int) : List Int := (onlyIn m o).filter fun x => decide (pos rk x > pos rk t)
theorem bel_onI {rk m o : List Int} {t : Int} : ((m.map PyData.int).filter (onI fun x => !decide (x ∈ o) && decide (pos rk x > pos rk t))).map id = (belF rk m o t).map .int := by
  rw [fil_on]
  unfold belF onlyIn
  rw [List.filter_filter]
  congr 2
  funext x
  exact Bool.and_comm _ _
theorem ord_rev {n : Nat} {l : List Int} (h : OrdOk n l) : OrdOk n l.reverse := (List.reverse_perm l).trans h
theorem in_onI {l m : List Int} : ((l.map PyData.int).filter (onI fun x => !decide (x ∈ m))).map id = (onlyIn l m).map .int := fil_on
theorem only_nil {l m : List Int} : (onlyIn l m).isEmpty = l.all fun x => decide (x ∈ m) := by
  unfold onlyIn
  rw [Bool.eq_iff_iff, List.isEmpty_iff, List.filter_eq_nil_iff, List.all_eq_true]
  simp
/-- the part that is due after some entries -/
def partF (rk : List Int) (es : List Ent) (m : List Int) (i : Nat) : List Int := if ((es.take i).any fun e => covB rk e m) = true then greatF rk es m else m
theorem part_snoc {rk m : List Int} {es : List Ent} {i : Nat} {e : Ent} (h : es[i]? = some e) : partF rk es m (i + 1) = if covB rk e m = true then greatF rk es m else partF rk es m i := by
  unfold partF
  rw [take_snoc h, List.any_append]
  by_cases z : covB rk e m = true <;> by_cases y : ((es.take i).any fun e => covB rk e m) = true <;> simp [z, y]
theorem part_end {rk m : List Int} {es : List Ent} : partF rk es m es.length = greatF rk es m := by
  unfold partF
  rw [List.take_length]
  by_cases z : (es.any fun e => covB rk e m) = true
  · rw [if_pos z]
  · rw [if_neg z, great_none fun e he => by
      rw [Bool.not_eq_true, List.any_eq_false] at z
      simpa using z e he]
theorem sto_two {S : List So} {x : So} {j : Nat} {y : So} (h : S[j]? = some y) : (S ++ [x])[j]? = some y := by
  have := (List.getElem?_eq_some_iff.mp h).1
  rw [List.getElem?_append_left this, h]
theorem opIsN_res {o : Option (Nat × Nat)} : opIsN (resD o) .none = some (.bool o.isNone) := by cases o <;> rfl
theorem entOk_of {n : Nat} {es : List Ent} (sub : (es.map (·.1)).Sublist (menus n)) (ent : ∀ e ∈ es, e.2 ∈ e.1) : EntOk n es := fun e he => ⟨sub.subset (List.mem_map.mpr ⟨e, he, rfl⟩), ent e he⟩
theorem tab_great {n : Nat} {rk : List Int} {es : List Ent} (n5 : n ≤ 5) (ok : EntOk n es) (ap : AllApart rk es) : TabOk n ((menus n).map (greatF rk es)) :=
  ⟨by rw [List.length_map], fun T hT => by rw [look_map n5 hT]; exact great_att ok ap T hT⟩
theorem rec_len {n : Nat} {es : List Ent} (n5 : n ≤ 5) (sub : (es.map (·.1)).Sublist (menus n)) : es.length ≤ 1000 := by
  have h1 := sub.length_le
  have h2 := menus_len n5
  rw [List.length_map] at h1
  omega
/-! ### all rankings, in ascending order -/
def longer (n : Nat) (l : List Int) : List (List Int) := ((upTo n).filter fun x => !decide (x ∈ l)).map fun x => l ++ [x]
def ordsI (n : Nat) : Nat → List (List Int)
  | 0 => [[]]
  | i + 1 => (ordsI n i).flatMap (longer n)
abbrev ords (n : Nat) : List (List Int) := ordsI n n
theorem longer_row {n i : Nat} {l m : List Int} (h : RowOk n i l) (hm : m ∈ longer n l) : RowOk n (i + 1) m := by
  obtain ⟨x, hx, rfl⟩ := List.mem_map.mp hm
  obtain ⟨h1, h2⟩ := List.mem_filter.mp hx
  have hx := upTo_mem.mp h1
  have hn : x ∉ l := by simpa using h2
  refine ⟨List.nodup_append.mpr ⟨h.1, by simp, fun a ha b hb e => ?_⟩, by simp [h.2.1], fun y hy => ?_⟩
  · rw [List.mem_singleton.mp hb] at e
    exact hn (e ▸ ha)
  · rcases List.mem_append.mp hy with hy | hy
    · exact h.2.2 y hy
    · rw [List.mem_singleton.mp hy]; exact hx
theorem ordsI_row {n : Nat} : ∀ (i : Nat), ∀ l ∈ ordsI n i, RowOk n i l
  | 0, l, h => by rw [List.mem_singleton.mp h]; exact ⟨List.nodup_nil, rfl, fun x h => by cases h⟩
  | i + 1, l, h => by
    obtain ⟨m, hm, hl⟩ := List.mem_flatMap.mp h
    exact longer_row (ordsI_row i m hm) hl
theorem ords_ok {n : Nat} {l : List Int} (h : l ∈ ords n) : OrdOk n l := row_order (ordsI_row n l h)
theorem longer_len {n : Nat} {l : List Int} : (longer n l).length ≤ n := by
  unfold longer
  rw [List.length_map]
  exact Nat.le_trans (List.length_filter_le _ _) (Nat.le_of_eq (upTo_len n))
theorem flat_len {α β : Type} {f : α → List β} {k : Nat} : ∀ (l : List α), (∀ x ∈ l, (f x).length ≤ k) → (l.flatMap f).length ≤ k * l.length
  | [], _ => by simp
  | x :: l, h => by
    rw [List.flatMap_cons, List.length_append, List.length_cons, Nat.mul_add]
    have := flat_len l fun y hy => h y (List.mem_cons_of_mem _ hy)
    have := h x List.mem_cons_self
    omega
theorem ordsI_len {n : Nat} (hn : n ≤ 5) : ∀ i, (ordsI n i).length ≤ 5 ^ i
  | 0 => Nat.le_refl _
  | i + 1 => by
    have h := flat_len (f := longer n) (k := 5) (ordsI n i) fun l _ => Nat.le_trans longer_len hn
    have := ordsI_len hn i
    show ((ordsI n i).flatMap (longer n)).length ≤ _
    rw [Nat.pow_succ]
    omega
theorem flat_snoc {α β : Type} {f : α → List β} {l : List α} {k : Nat} {x : α} (h : l[k]? = some x) : (l.take (k + 1)).flatMap f = (l.take k).flatMap f ++ f x := by
  rw [List.take_add_one, h, Option.toList_some, List.flatMap_append]; simp
theorem law_orders_ok {n : Nat} {S : List So} (hn : n ≤ 5) : m__law_orders [.int n] S = .ok (.list ((ords n).map tupI)) S := by
  rw [← wpf_eq]
  simp only [m__law_orders]
  rw [wp_fn (by rfl)]
  simp [b__law_orders]
  refine wp_for ?_
  simp
  refine ⟨by omega, forD_wp (fun i s => i ≤ n ∧ ∃ (a2 a3 a4 a5 : Slot), s = ⟨[.val (.int n), .val (.list ((ordsI n i).map tupI)), a2, a3, a4, a5], S⟩) ?_ ?_ ⟨Nat.zero_le _, _, _, _, _, rfl⟩⟩
  · rintro i d s hd ⟨hi, a2, a3, a4, a5, rfl⟩
    obtain ⟨rfl, hi⟩ := rg_get hd
    have p5 : 5 ^ i ≤ 5 ^ 5 := Nat.pow_le_pow_right (by decide) (by omega)
    have few := ordsI_len hn i
    have rows := ordsI_row (n := n) i
    have nxt : ordsI n (i + 1) = (ordsI n i).flatMap (longer n) := rfl
    rw [nxt]
    generalize ordsI n i = F at few rows nxt
    simp
    refine wp_for ?_
    simp
    obtain ⟨G, hG⟩ : ∃ G : Nat → List (List Int), G = fun k => (F.take k).flatMap (longer n) := ⟨_, rfl⟩
    have G0 : G 0 = [] := by rw [hG]; simp
    have Gn : G F.length = F.flatMap (longer n) := by rw [hG]; simp
    have Gl : ∀ k, (G k).length ≤ 5 * 5 ^ i := fun k => by
      rw [hG]
      show ((F.take k).flatMap (longer n)).length ≤ _
      have := flat_len (f := longer n) (k := 5) (F.take k) fun l _ => Nat.le_trans longer_len hn
      have h2 : (F.take k).length ≤ F.length := (List.take_sublist k F).length_le
      omega
    refine forD_wp (fun k s => k ≤ F.length ∧ ∃ (a4 a5 : Slot), s = ⟨[.val (.int n), .val (.list (F.map tupI)), .val (.int i), .val (.list ((G k).map tupI)), a4, a5], S⟩) ?_ ?_ ⟨Nat.zero_le _, a4, a5, by rw [G0]; rfl⟩
    · rintro k d s hd ⟨hk, b4, b5, rfl⟩
      rw [List.getElem?_map] at hd
      obtain ⟨l, hl, rfl⟩ := Option.map_eq_some_iff.mp hd
      have hkF : k < F.length := (List.getElem?_eq_some_iff.mp hl).1
      have rl := rows l (List.mem_of_getElem? hl)
      have Gk : G (k + 1) = G k ++ longer n l := by rw [hG]; exact flat_snoc hl
      rw [Gk]
      have gl := Gl k
      generalize G k = Gk0 at gl
      simp
      refine wp_lcP (onI fun x => !decide (x ∈ l)) (fun d => match d with | .int x => tupI (l ++ [x]) | d => d) ?_
      simp only [wp_rg1, eVar_at, List.getElem?_cons_succ, List.getElem?_cons_zero, wp_ok, PyData.int.injEq, exists_eq_left']
      refine ⟨by omega, fun d hd => ?_, ?_⟩
      · rw [rg_0] at hd
        obtain ⟨x, hx, rfl⟩ := List.mem_map.mp hd
        have e : opAdd (tupI l) (.tuple [.int x]) = some (tupI (l ++ [x])) := by
          unfold opAdd tupI
          simp
          rw [rl.2.1]
          omega
        simp [onI, e]
      rw [rg_0]
      have ef : (((upTo n).map PyData.int).filter (onI fun x => !decide (x ∈ l))).map (fun d => match d with | .int x => tupI (l ++ [x]) | d => d) = (longer n l).map tupI := by
        unfold longer
        rw [List.filter_map, List.map_map, List.map_map]
        rfl
      rw [ef]
      have ll := longer_len (n := n) (l := l)
      generalize longer n l = M at ll
      have e : opAdd (.list (Gk0.map tupI)) (.list (M.map tupI)) = some (.list ((Gk0 ++ M).map tupI)) := by
        unfold opAdd
        simp
        omega
      simp [e]
      omega
    · rintro s ⟨_, b4, b5, rfl⟩
      rw [List.length_map, Gn]
      simp
      try omega
  · rintro s ⟨_, a2, a3, a4, a5, rfl⟩
    rw [rg_len]
    simp
theorem flat_ext {α β : Type} {f g : α → List β} : ∀ (l : List α), (∀ x ∈ l, f x = g x) → l.flatMap f = l.flatMap g
  | [], _ => rfl
  | x :: l, h => by rw [List.flatMap_cons, List.flatMap_cons, h x List.mem_cons_self, flat_ext l fun y hy => h y (List.mem_cons_of_mem _ hy)]
theorem all_rankings_ok {n : Nat} {S : List So} (hn : n ≤ 5) : m_all_rankings [.int n] S = .ok (.list ((ords n).map tupI)) S := by
  rw [← wpf_eq]
  simp only [m_all_rankings]
  rw [wp_fn (by rfl)]
  simp [b_all_rankings]
  refine wp_for ?_
  simp
  refine ⟨by omega, forD_wp (fun i s => i ≤ n ∧ ∃ (a2 : Slot), s = ⟨[.val (.int n), .val (.list ((ordsI n i).map tupI)), a2, .non, .non], S⟩) ?_ ?_ ⟨Nat.zero_le _, _, rfl⟩⟩
  · rintro i d s hd ⟨hi, a2, rfl⟩
    obtain ⟨rfl, hi⟩ := rg_get hd
    have p5 : 5 ^ i ≤ 5 ^ 5 := Nat.pow_le_pow_right (by decide) (by omega)
    have few := ordsI_len hn i
    have rows := ordsI_row (n := n) i
    have nxt : ordsI n (i + 1) = (ordsI n i).flatMap (longer n) := rfl
    rw [nxt]
    generalize ordsI n i = F at few rows nxt
    simp
    refine wp_lc2P (fun _ => true) (fun _ => (upTo n).map .int) (fun d e => match d, e with | .tuple l, .int x => !((l.any fun z => PyData.eqv z (.int x))) | _, _ => false) (fun d e => match d with | .tuple l => .tuple (l ++ [e]) | d => d) ?_
    simp only [wp_iSeq, eVar_at, List.getElem?_cons_succ, List.getElem?_cons_zero, wp_ok, items_list, Option.some.injEq, exists_eq_left']
    have key : ∀ l : List Int, (((upTo n).map PyData.int).filter fun e => match (tupI l), e with | .tuple l, .int x => !((l.any fun z => PyData.eqv z (.int x))) | _, _ => false).map (fun e => match (tupI l) with | .tuple l => .tuple (l ++ [e]) | d => d) = (longer n l).map tupI := fun l => by
      unfold longer
      rw [List.filter_map, List.map_map, List.map_map]
      have ep : ((fun e => match (tupI l), e with | .tuple l, .int x => !((l.any fun z => PyData.eqv z (.int x))) | _, _ => false) ∘ PyData.int) = fun x => !decide (x ∈ l) := by
        funext x
        show (!((l.map PyData.int).any fun z => PyData.eqv z (.int x))) = _
        rw [any_eqv]
      rw [ep]
      refine List.map_congr_left fun x _ => ?_
      show PyData.tuple (l.map .int ++ [.int x]) = tupI (l ++ [x])
      simp [tupI]
    have all : ((F.map tupI).filter fun _ => true).flatMap (fun d => (((upTo n).map PyData.int).filter fun e => match d, e with | .tuple l, .int x => !((l.any fun z => PyData.eqv z (.int x))) | _, _ => false).map (fun e => match d with | .tuple l => .tuple (l ++ [e]) | d => d)) = (F.flatMap (longer n)).map tupI := by
      have ft : ∀ l : List PyData, l.filter (fun _ => true) = l := fun l => by simp
      rw [ft, List.flatMap_map, List.map_flatMap]
      exact flat_ext F fun l _ => key l
    refine ⟨fun d hd => ?_, ?_⟩
    · obtain ⟨l, hl, rfl⟩ := List.mem_map.mp hd
      have rl := rows l hl
      refine ⟨_, rfl, by simp, by simp, fun _ => ?_⟩
      simp [rg_0]
      exact ⟨by omega, fun a _ => ⟨by rw [← List.any_map, any_eqv], fun _ => by rw [rl.2.1]; omega⟩⟩
    · have h2 := flat_len (f := longer n) (k := 5) F fun l _ => Nat.le_trans longer_len hn
      refine ⟨?_, ?_⟩
      · rw [all, List.length_map]; omega
      · rw [all]; simp; try omega
  · rintro s ⟨_, a2, rfl⟩
    rw [rg_len]
    simp
/-! ### the rankings that explain some records -/
def explB (es : List Ent) (rk : List Int) : Bool := (fstP (fullB rk es) es.length).isNone
def pairsD (es : List Ent) : PyData := .list (((pQ es.length).filter (condB es)).map (dPair es))
theorem clash_nil {es : List Ent} {rk : List Int} : ((((pQ es.length).filter (condB es)).filter (clB rk es)).map dIx).isEmpty = explB es rk := by
  unfold explB fstP
  rw [List.filter_filter]
  have e : (pQ es.length).filter (fun p => clB rk es p && condB es p) = (pQ es.length).filter (fullB rk es) := by
    congr 1
    funext p
    simp [fullB, Bool.and_comm]
  rw [e]
  cases (pQ es.length).filter (fullB rk es) <;> rfl
theorem wpo_eq {x : Ou} {s : Sta} : (x.wp (fun t => t = s) (fun _ _ => False) (fun _ => False) fun _ => False) ↔ x = .nx s := by
  cases x <;> simp [Ou.wp]
/-- a generator's list, as the consumer takes it -/
theorem gen_eq {m : GD} {fl : EL} {st st1 : Sta} {out args : List PyData} (h : fl st = .ok args st1) (o : OnlyG m args out) : eGen m fl st = .ok out st1 :=
  wp_eq.mp (wp_gen (by rw [h]; exact ⟨out, o, rfl, rfl⟩))
def pickAt {α : Type} (p : α → Bool) (f : α → PyData) (l : List α) (j : Nat) : List PyData := match l[j]? with
  | some x => if p x = true then [f x] else []
  | none => []
theorem pick_some {α : Type} {p : α → Bool} {f : α → PyData} {l : List α} {j : Nat} {x : α} (h : l[j]? = some x) : pickAt p f l j = if p x = true then [f x] else [] := by unfold pickAt; rw [h]
theorem flat_one {α : Type} {p : α → Bool} {f : α → PyData} : ∀ (l : List α), ((List.range l.length).map (pickAt p f l)).flatten = (l.filter p).map f
  | [] => rfl
  | x :: l => by
    rw [List.length_cons, List.range_succ_eq_map, List.map_cons, List.flatten_cons, List.map_map]
    have ih := flat_one (p := p) (f := f) l
    have e : (pickAt p f (x :: l) ∘ Nat.succ) = pickAt p f l := by
      funext j
      rfl
    rw [e, ih]
    show (if p x = true then [f x] else []) ++ _ = _
    by_cases q : p x = true
    · rw [if_pos q, List.filter_cons_of_pos q]; rfl
    · rw [if_neg q, List.filter_cons_of_neg q]; rfl
theorem no_nil : NoOwn [] := fun i l h => by simp at h
theorem no_val {d : PyData} {r : List Slot} (h : NoOwn r) : NoOwn (.val d :: r) := fun i l e => by
  cases i with
  | zero => simp at e
  | succ i => exact h i l (by simpa using e)
theorem no_non {r : List Slot} (h : NoOwn r) : NoOwn (.non :: r) := fun i l e => by
  cases i with
  | zero => simp at e
  | succ i => exact h i l (by simpa using e)
/-! ### rankings_by -/
theorem rankings_by_ok {n : Nat} {rs : List (List Ent)} (n5 : n ≤ 5) (ne : rs ≠ []) (hr : ∀ es ∈ rs, Rng n es) (hl : ∀ es ∈ rs, es.length ≤ 1000) (hl2 : rs.length ≤ 1000) :
    OnlyG m_rankings_by (rs.map fun es => recD n es) (((ords n).filter fun rk => rs.all fun es => explB es rk).map tupI) := by
  have n2 : n ≤ 1000 := by omega
  refine only_pack (Nat.zero_le _) (by rw [List.length_map]; omega) (only_gen rfl ?_)
  have e0 : (packD 0 (rs.map fun es => recD n es)) = [.tuple (rs.map fun es => recD n es)] := rfl
  rw [e0]
  obtain ⟨RS, hRS⟩ : ∃ RS, RS = rs.map fun es => recD n es := ⟨_, rfl⟩
  rw [← hRS]
  have RSl : RS.length = rs.length := by rw [hRS, List.length_map]
  obtain ⟨PS, hPS⟩ : ∃ PS, PS = rs.map pairsD := ⟨_, rfl⟩
  have hp : ∀ S, (sAsg (gN 1) (eLst (nLc (iSeq (eVar 0)) (gN 3) tYs (eCall m_pairs_of (eCons (eVar 3) eNil)) [3]))) ⟨[.val (.tuple RS), .non, .non, .non, .non], S⟩ = .nx ⟨[.val (.tuple RS), .val (.list PS), .non, .non, .non], S⟩ := fun S => by
    refine wpo_eq.mp ?_
    simp
    refine wp_lc ?_
    simp
    refine ⟨fun i acc s => s = ⟨[.val (.tuple RS), .non, .non, .non, .non], S⟩ ∧ acc = PS.take i, ⟨rfl, by simp⟩, ?_, ?_⟩
    · rintro i d acc s hd ⟨rfl, rfl⟩
      rw [hRS, List.getElem?_map] at hd
      obtain ⟨es, he, rfl⟩ := Option.map_eq_some_iff.mp hd
      have hP : PS[i]? = some (pairsD es) := by rw [hPS, List.getElem?_map, he]; rfl
      have tk : PS.take (i + 1) = PS.take i ++ [pairsD es] := by rw [List.take_add_one, hP]; rfl
      simp [pairs_of_ok (n := n) (hl es (List.mem_of_getElem? he)), tk, pairsD]
    · rintro acc s ⟨rfl, rfl⟩
      have : PS.take RS.length = PS := by rw [RSl]; exact List.take_of_length_le (by rw [hPS, List.length_map]; exact Nat.le_refl _)
      simp [this]
  have hi : ∀ S, (iSeq (eCall m_all_rankings (eCons (eOp2 opIx (eOp2 opIx (eVar 0) (eC (.int 0))) (eC (.int 0))) eNil))) ⟨[.val (.tuple RS), .val (.list PS), .non, .non, .non], S⟩ = .ok ((ords n).map tupI) ⟨[.val (.tuple RS), .val (.list PS), .non, .non, .non], S⟩ := fun S => by
    refine wp_eq.mp ?_
    cases rs with
    | nil => exact absurd rfl ne
    | cons es r =>
      rw [List.map_cons] at hRS
      rw [hRS]
      simp [all_rankings_ok n5]
  have step : ∀ (i : Nat) (x : PyData) (r : List Slot), ((ords n).map tupI)[i]? = some x → (∃ a2, r = [.val (.tuple RS), .val (.list PS), a2, .non, .non]) → ∃ r2 r3, (∀ S, gN 2 x ⟨r, S⟩ = some ⟨r2, S⟩) ∧ OneL (gIf (asB (eOpL opAll (eCons (eLst (nLc (iSeq (eVar 1)) (gN 4) tYs (eOp2 opEq (eCall m_clashes_of (eCons (eVar 4) (eCons (eVar 2) eNil))) (eLst (nLst eNil))) [4])) eNil))) (gYl (eVar 2)) gNx) r2 (pickAt (fun rk => rs.all fun es => explB es rk) tupI (ords n) i) r3 ∧ ∃ a2, r3 = [.val (.tuple RS), .val (.list PS), a2, .non, .non] := fun i x r hx ⟨a2, er⟩ => by
    subst er
    rw [List.getElem?_map] at hx
    obtain ⟨rk, hk, rfl⟩ := Option.map_eq_some_iff.mp hx
    have ho := ords_ok (List.mem_of_getElem? hk)
    refine ⟨[.val (.tuple RS), .val (.list PS), .val (tupI rk), .non, .non], [.val (.tuple RS), .val (.list PS), .val (tupI rk), .non, .non], fun S => rfl, ?_, _, rfl⟩
    refine one_if (k := rs.all fun es => explB es rk) (r2 := [.val (.tuple RS), .val (.list PS), .val (tupI rk), .non, .non]) (fun S => wp_eq.mp ?_) ?_
    · simp
      refine wp_lc ?_
      simp
      refine ⟨fun i acc s => s = ⟨[.val (.tuple RS), .val (.list PS), .val (tupI rk), .non, .non], S⟩ ∧ acc = (rs.take i).map fun es => PyData.bool (explB es rk), ⟨rfl, by simp⟩, ?_, ?_⟩
      · rintro i d acc s hd ⟨rfl, rfl⟩
        rw [hPS, List.getElem?_map] at hd
        obtain ⟨es, he, rfl⟩ := Option.map_eq_some_iff.mp hd
        have c1 := clashes_of_ok (S := S) (L := (pQ es.length).filter (condB es)) ho n2 (hr es (List.mem_of_getElem? he)) (fun p hp => by
          have := pQ_mem.mp (List.mem_filter.mp hp).1
          omega)
        have cn := clash_nil (es := es) (rk := rk)
        simp only [pairsD]
        simp [c1]
        rw [List.filter_filter] at cn
        refine ⟨.bool (explB es rk), ?_, ?_⟩
        · rw [opEq_nil (k := 2) (lay_list (k := 1) fun d hd => by obtain ⟨i, _, rfl⟩ := List.mem_map.mp hd; exact lay_ix) (by decide), cn]
        · rw [List.take_add_one, List.getElem?_map, he]; rfl
      · rintro acc s ⟨rfl, rfl⟩
        have : PS.length = rs.length := by rw [hPS, List.length_map]
        rw [this, List.take_length]
        simp
    · rw [pick_some hk]
      cases q : rs.all fun es => explB es rk with
      | true => exact one_yl (fun S => rfl) (no_val (no_val (no_val (no_non (no_non no_nil)))))
      | false => exact one_nx
  obtain ⟨r1, h1, _⟩ := one_loop (fun _ r => ∃ a2, r = [.val (.tuple RS), .val (.list PS), a2, .non, .non]) (pickAt (fun rk => rs.all fun es => explB es rk) tupI (ords n)) step ((ords n).map tupI).length 0 [.val (.tuple RS), .val (.list PS), .non, .non, .non] (Nat.add_zero _) ⟨_, rfl⟩
  have fl := flat_one (p := fun rk => rs.all fun es => explB es rk) (f := tupI) (ords n)
  rw [List.length_map] at h1
  have ez : (fun j => pickAt (fun rk => rs.all fun es => explB es rk) tupI (ords n) (0 + j)) = pickAt (fun rk => rs.all fun es => explB es rk) tupI (ords n) := by funext j; rw [Nat.zero_add]
  rw [ez, fl] at h1
  exact ⟨r1, one_seq (one_pl hp) (one_for hi h1)⟩
theorem rankings_ok {n : Nat} {es : List Ent} (h : RecOk n es) (hl : es.length ≤ 1000) : OnlyG m_rankings [recD n es] (((ords n).filter fun rk => explB es rk).map tupI) := by
  have n5 : n ≤ 5 := by have := h.n5; omega
  have by_ := rankings_by_ok (n := n) (rs := [es]) n5 (by simp) (fun e he => by rw [List.mem_singleton.mp he]; exact h.rng) (fun e he => by rw [List.mem_singleton.mp he]; exact hl) (by simp)
  have ef : (fun rk => [es].all fun es => explB es rk) = fun rk => explB es rk := by funext rk; simp
  rw [ef] at by_
  refine only_gen rfl ?_
  have hp : ∀ S, (sDrop (eCall m_need_record (eCons (eVar 0) eNil))) ⟨[.val (recD n es), .non], S⟩ = .nx ⟨[.val (recD n es), .non], S⟩ := fun S => wpo_eq.mp (by simp [need_record_ok h])
  generalize hQ : (ords n).filter (fun rk => explB es rk) = Q at by_
  have hi : ∀ S, eGen m_rankings_by (eCons (eVar 0) eNil) ⟨[.val (recD n es), .non], S⟩ = .ok (Q.map tupI) ⟨[.val (recD n es), .non], S⟩ := fun S => gen_eq (by rfl) by_
  obtain ⟨r1, h1, _⟩ := one_loop (g := gN 1) (b := gYl (eVar 1)) (xs := Q.map tupI) (fun _ r => ∃ a1, r = [.val (recD n es), a1]) (pickAt (fun _ => true) tupI Q) (fun i x r hx ⟨a1, er⟩ => by
    subst er
    rw [List.getElem?_map] at hx
    obtain ⟨rk, hk, rfl⟩ := Option.map_eq_some_iff.mp hx
    refine ⟨[.val (recD n es), .val (tupI rk)], [.val (recD n es), .val (tupI rk)], fun S => rfl, ?_, _, rfl⟩
    rw [pick_some hk]
    exact one_yl (fun S => rfl) (no_val (no_val no_nil))) (Q.map tupI).length 0 [.val (recD n es), .non] (Nat.add_zero _) ⟨_, rfl⟩
  have fl := flat_one (p := fun _ => true) (f := tupI) Q
  have ft : Q.filter (fun _ => true) = Q := by simp
  rw [ft] at fl
  rw [List.length_map] at h1
  have ez : (fun j => pickAt (fun _ => true) tupI Q (0 + j)) = pickAt (fun _ => true) tupI Q := by funext j; rw [Nat.zero_add]
  rw [ez, fl] at h1
  exact ⟨r1, one_seq (one_pl hp) (one_for hi h1)⟩
/-! ### common -/
/-- the loop that hands on what it takes -/
theorem one_on {r0 : List Slot} {Q : List (List Int)} (i : Nat) (P : List Slot → Prop) (hP : ∀ r d, P r → P (r.set i (.val d))) (hv : ∀ r d S, P r → eVar i ⟨r.set i (.val d), S⟩ = .ok d ⟨r.set i (.val d), S⟩) (hn : ∀ r d, P r → NoOwn (r.set i (.val d))) (h0 : P r0) :
    ∃ r1, OneL (gLoop (gN i) (gYl (eVar i)) (Q.map tupI)) r0 (Q.map tupI) r1 := by
  obtain ⟨r1, h1, _⟩ := one_loop (g := gN i) (b := gYl (eVar i)) (xs := Q.map tupI) (fun _ r => P r) (pickAt (fun _ => true) tupI Q) (fun j x r hx pr => by
    rw [List.getElem?_map] at hx
    obtain ⟨rk, hk, rfl⟩ := Option.map_eq_some_iff.mp hx
    refine ⟨r.set i (.val (tupI rk)), r.set i (.val (tupI rk)), fun S => rfl, ?_, hP r _ pr⟩
    rw [pick_some hk]
    exact one_yl (fun S => hv r _ S pr) (hn r _ pr)) (Q.map tupI).length 0 r0 (Nat.add_zero _) h0
  have fl := flat_one (p := fun _ => true) (f := tupI) Q
  have ft : Q.filter (fun _ => true) = Q := by simp
  rw [ft] at fl
  rw [List.length_map] at h1
  have ez : (fun j => pickAt (fun _ => true) tupI Q (0 + j)) = pickAt (fun _ => true) tupI Q := by funext j; rw [Nat.zero_add]
  rw [ez, fl] at h1
  exact ⟨r1, h1⟩
theorem lay_rec {n : Nat} {es : List Ent} : lay 4 (recD n es) := lay_tup fun d hd => by
  simp only [List.mem_cons, List.not_mem_nil, or_false] at hd
  rcases hd with rfl | rfl
  · exact lay_int
  · refine lay_tup (k := 2) fun d hd => ?_
    obtain ⟨e, _, rfl⟩ := List.mem_map.mp hd
    refine lay_tup (k := 1) fun d hd => ?_
    simp only [List.mem_cons, List.not_mem_nil, or_false] at hd
    rcases hd with rfl | rfl
    · exact lay_tupI
    · exact lay_int
theorem opEq_tnil {k : Nat} {l : List PyData} (h : lay k (.tuple l)) (hk : k ≤ 64) : opEq (.tuple l) (.tuple []) = some (.bool l.isEmpty) := by
  have e : PyData.eqv (.tuple l) (.tuple []) = l.isEmpty := by cases l <;> simp [PyData.eqv, PyData.eqvAll]
  unfold opEq
  simp only [eqD]
  rw [lay_shp h hk, e]; rfl
/-! ### the first ranking, verdicts -/
def firstF (n : Nat) (es : List Ent) : Option (List Int) := (ords n).find? (explB es)
def ordD : Option (List Int) → PyData
  | none => .none
  | some rk => tupI rk
theorem by_one {n : Nat} {es : List Ent} (n5 : n ≤ 5) (hr : Rng n es) (hl : es.length ≤ 1000) : OnlyG m_rankings_by [recD n es] (((ords n).filter (explB es)).map tupI) := by
  have by_ := rankings_by_ok (n := n) (rs := [es]) n5 (by simp) (fun e he => by rw [List.mem_singleton.mp he]; exact hr) (fun e he => by rw [List.mem_singleton.mp he]; exact hl) (by simp)
  have ef : (fun rk => [es].all fun es => explB es rk) = explB es := by funext rk; simp
  rw [ef] at by_
  exact by_
def clashesD (n : Nat) (es : List Ent) : PyData := .tuple ((ords n).map fun rk => resD (fstP (fullB rk es) es.length))
def verD (n : Nat) (es : List Ent) : PyData := match firstF n es with
  | some rk => .tuple [.str "ranking", tupI rk]
  | none => .tuple [.str "clashes", clashesD n es]
theorem ords_len {n : Nat} (n5 : n ≤ 5) : (ords n).length ≤ 3125 := Nat.le_trans (ordsI_len n5 n) (show 5 ^ n ≤ 5 ^ 5 from Nat.pow_le_pow_right (by decide) n5)
/-! ### what a law says of verdicts -/
theorem eqv_resD {o : Option (Nat × Nat)} : PyData.eqv (resD o) .none = o.isNone := by cases o <;> rfl
theorem lay_res {o : Option (Nat × Nat)} : lay 1 (resD o) := by
  cases o
  · exact lay_none
  · exact lay_ix
theorem shp_none : shp .none = true := lay_shp (k := 0) lay_none (by decide)
theorem opIn_none {α : Type} {l : List α} {f : α → Option (Nat × Nat)} : opIn .none (.list (l.map fun a => resD (f a))) = some (.bool (l.any fun a => (f a).isNone)) := by
  have s2 : shp (.list (l.map fun a => resD (f a))) = true := lay_shp (k := 2) (lay_list fun d hd => by obtain ⟨i, _, rfl⟩ := List.mem_map.mp hd; exact lay_res) (by decide)
  have ea : (l.map fun a => resD (f a)).any (fun z => PyData.eqv z .none) = l.any fun a => (f a).isNone := by
    rw [List.any_map]
    congr 1
    funext a
    exact eqv_resD
  unfold opIn inD
  simp only [itemsOf, Option.bind_some, shp_none, s2, ea]
  simp
theorem ixOf_first {α : Type} {f : α → Option (Nat × Nat)} : ∀ (l : List α) (k : Nat), (l.any fun a => (f a).isNone) = true → ∃ j a, ixOf .none (l.map fun a => resD (f a)) k = some (k + j) ∧ l[j]? = some a ∧ (l.find? fun a => (f a).isNone) = some a
  | [], k, h => by cases h
  | a :: l, k, h => by
    cases q : (f a).isNone with
    | true => exact ⟨0, a, by simp [ixOf, eqv_resD, q], rfl, by simp [List.find?_cons, q]⟩
    | false =>
      rw [List.any_cons, q, Bool.false_or] at h
      obtain ⟨j, b, h1, h2, h3⟩ := ixOf_first l (k + 1) h
      refine ⟨j + 1, b, ?_, by simpa using h2, by simp [List.find?_cons, q, h3]⟩
      simp only [List.map_cons, ixOf, eqv_resD, q]
      simp [h1]
      omega
theorem sorts_ents : ∀ (l : List Ent), (l.map (·.1)).Nodup → ∃ m : List Ent, m.Perm l ∧ m.Pairwise fun a b => HT.lexLt a.1 b.1 = true
  | [], _ => ⟨[], .refl _, .nil⟩
  | e :: l, h => by
    rw [List.map_cons, List.nodup_cons] at h
    obtain ⟨m, h1, h2⟩ := sorts_ents l h.2
    refine ⟨insE e m, (insE_perm e m).trans ((List.perm_append_comm).trans (h1.cons e)), insE_up h2 fun f hf z => h.1 ?_⟩
    rw [← z]
    exact List.mem_map.mpr ⟨f, h1.mem_iff.mp hf, rfl⟩
theorem ord4 {o : List Int} (h : OrdOk 4 o) : ∃ a b c d, o = [a, b, c, d] ∧ (0 ≤ a ∧ a < 4) ∧ (0 ≤ b ∧ b < 4) ∧ (0 ≤ c ∧ c < 4) ∧ (0 ≤ d ∧ d < 4) ∧ a ≠ b ∧ a ≠ c ∧ a ≠ d ∧ b ≠ c ∧ b ≠ d ∧ c ≠ d := by
  have hl := h.length_eq
  have nd := h.nodup
  have hm : ∀ x ∈ o, 0 ≤ x ∧ x < 4 := fun x hx => by have := upTo_mem.mp (h.mem_iff.mp hx); omega
  rw [upTo_len] at hl
  match o, hl with
  | [a, b, c, d], _ =>
    simp at nd hm
    exact ⟨a, b, c, d, rfl, hm.1, hm.2.1, hm.2.2.1, hm.2.2.2, nd.1.1, nd.1.2.1, nd.1.2.2, nd.2.1.1, nd.2.1.2, nd.2.2⟩
theorem menuZ {n : Nat} {l : List Int} (ne : l ≠ []) (nd : l.Nodup) (h : ∀ x ∈ l, 0 ≤ x ∧ x < (n : Int)) : sortZ l ∈ menus n :=
  menus_mem.mpr ⟨fun z => ne (by have := (sortZ_perm l).length_eq; rw [z] at this; exact List.length_eq_zero_iff.mp this.symm), sortZ_up nd, fun x hx => h x ((sortZ_perm l).mem_iff.mp hx)⟩
/-! ### all orders -/
theorem lay_ords {l : List (List Int)} : lay 2 (.list (l.map tupI)) := lay_list fun d hd => by obtain ⟨i, _, rfl⟩ := List.mem_map.mp hd; exact lay_tupI
theorem ord_row {n : Nat} {l : List Int} (h : OrdOk n l) : RowOk n n l := ⟨h.nodup, by rw [h.length_eq, upTo_len], fun x hx => upTo_mem.mp (h.mem_iff.mp hx)⟩
theorem ordsI_all {n : Nat} : ∀ (i : Nat) (l : List Int), RowOk n i l → l ∈ ordsI n i
  | 0, l, h => by rw [List.length_eq_zero_iff.mp h.2.1]; exact List.mem_singleton.mpr rfl
  | i + 1, l, h => by
    have ne : l ≠ [] := fun z => by have := h.2.1; rw [z] at this; cases this
    have e := List.dropLast_concat_getLast ne
    have nd := h.1
    rw [← e] at nd
    obtain ⟨n1, n2, n3⟩ := List.nodup_append.mp nd
    have r : RowOk n i l.dropLast := ⟨n1, by rw [List.length_dropLast, h.2.1]; rfl, fun x hx => h.2.2 x (List.dropLast_subset l hx)⟩
    refine List.mem_flatMap.mpr ⟨l.dropLast, ordsI_all i _ r, List.mem_map.mpr ⟨l.getLast ne, List.mem_filter.mpr ⟨upTo_mem.mpr (h.2.2 _ (List.getLast_mem ne)), ?_⟩, e⟩⟩
    have : l.getLast ne ∉ l.dropLast := fun z => n3 _ z _ List.mem_cons_self rfl
    simpa using this
theorem ords_all {n : Nat} {l : List Int} (h : OrdOk n l) : l ∈ ords n := ordsI_all n l (ord_row h)
/-! ### ways to notice are steady -/
theorem take_less {l : List Int} {x : Int} {k : Nat} (hx : x ∈ l) (h : x ∉ l.take k) : (l.filter fun y => !(y == x)).take k = l.take k := by
  have hk : k ≤ l.length := by
    by_cases q : l.length ≤ k
    · rw [List.take_of_length_le q] at h; exact absurd hx h
    · omega
  have e : (l.take k).filter (fun y => !(y == x)) = l.take k := List.filter_eq_self.mpr fun y hy => by
    have : y ≠ x := fun z => h (z ▸ hy)
    simpa using this
  have e2 : l.filter (fun y => !(y == x)) = l.take k ++ (l.drop k).filter fun y => !(y == x) := by
    conv => lhs; rw [← List.take_append_drop k l]
    rw [List.filter_append, e]
  rw [e2]
  exact List.take_left' (by rw [List.length_take]; omega)
theorem noticed_steady {n : Nat} {hid ord : List Int} {k : Int} (ho : OrdOk n ord) : Steady n (noticedF hid ord k) := by
  intro T hT x hx hn
  have hxo : x ∈ ord := ho.mem_iff.mpr (upTo_mem.mpr ((menus_mem.mp hT).2.2 x hx))
  unfold noticedF at hn ⊢
  split
  · rename_i q
    rw [if_pos q] at hn
    have hn : x ∉ (ord.filter fun y => decide (y ∈ T)).take k.toNat := fun z => hn ((sortZ_perm _).mem_iff.mpr z)
    have e : (ord.filter fun y => decide (y ∈ lessF T x)) = (ord.filter fun y => decide (y ∈ T)).filter fun y => !(y == x) := by
      rw [List.filter_filter]
      refine List.filter_congr fun y _ => ?_
      rw [Bool.eq_iff_iff]
      simp [less_mem]
      exact ⟨fun h => ⟨h.2, h.1⟩, fun h => ⟨h.2, h.1⟩⟩
    rw [e, take_less (List.mem_filter.mpr ⟨hxo, by simpa using hx⟩) hn]
  · rename_i q
    rw [if_neg q] at hn
    have e : (lessF T x).filter (fun y => !decide (y ∈ hid)) = (T.filter fun y => !decide (y ∈ hid)).filter fun y => !(y == x) := by
      unfold lessF
      rw [List.filter_filter, List.filter_filter]
      refine List.filter_congr fun y _ => ?_
      rw [Bool.and_comm]
    by_cases c : T.filter (fun y => !decide (y ∈ hid)) = []
    · rw [if_pos c] at hn; exact absurd hx hn
    · rw [if_neg c] at hn
      have e2 : (T.filter fun y => !decide (y ∈ hid)).filter (fun y => !(y == x)) = T.filter fun y => !decide (y ∈ hid) := List.filter_eq_self.mpr fun y hy => by
        have : y ≠ x := fun z => hn (z ▸ hy)
        simpa using this
      rw [e, e2, if_neg c, if_neg c]
theorem noticed_att {n : Nat} {hid ord : List Int} {k : Int} (h5 : n ≤ 5) (ho : OrdOk n ord) (h1 : 1 ≤ k) : AttOk n (noticedF hid ord k) := fun T hT => noticed_menu h5 ho hT h1
/-- a record made by a ranking and a way to notice -/
theorem made_expl {n : Nat} {rk hid ord : List Int} {k : Int} {es : List Ent} (h5 : n ≤ 5) (hr : OrdOk n rk) (ho : OrdOk n ord) (h1 : 1 ≤ k) (ok : EntOk n es) (mk : ∀ e ∈ es, e.2 = topF rk (noticedF hid ord k e.1)) : explB es rk = true := by
  have := no_clash hr ok (noticed_att (hid := hid) h5 ho h1) (noticed_steady ho) fun e he => by
    rw [mk e he]
    exact (top_there hr (noticed_menu h5 ho (ok e he).1 h1).1).choose_spec.2
  unfold explB
  rw [this]
  rfl
/-! ### parts of records -/
/-- two entries that clash -/
def clE (rk : List Int) (a b : Ent) : Bool := meetB a b && (noLow rk a.2 (onlyIn a.1 b.1) && noLow rk b.2 (onlyIn b.1 a.1))
theorem fullB_eq {rk : List Int} {es : List Ent} {i j : Nat} : fullB rk es (i, j) = clE rk (ev es i) (ev es j) := rfl
theorem fstP_isNone {c : Nat × Nat → Bool} {n : Nat} : (fstP c n).isNone = true ↔ ∀ p ∈ pQ n, c p = false := by
  unfold fstP
  rw [Option.isNone_iff_eq_none, List.head?_eq_none_iff, List.filter_eq_nil_iff]
  exact ⟨fun h p hp => by simpa using h p hp, fun h p hp => by simp [h p hp]⟩
theorem expl_iff {es : List Ent} {rk : List Int} : explB es rk = true ↔ es.Pairwise fun a b => clE rk a b = false := by
  unfold explB
  rw [fstP_isNone, List.pairwise_iff_getElem]
  refine ⟨fun h i j hi hj hij => ?_, fun h p hp => ?_⟩
  · have := h (i, j) (pQ_mem.mpr ⟨hij, hj⟩)
    rw [fullB_eq, ev_at (List.getElem?_eq_getElem hi), ev_at (List.getElem?_eq_getElem hj)] at this
    exact this
  · obtain ⟨i, j⟩ := p
    obtain ⟨hij, hj⟩ := pQ_mem.mp hp
    have hj : j < es.length := hj
    have hij : i < j := hij
    have hi : i < es.length := by omega
    have := h i j hi hj hij
    rw [fullB_eq, ev_at (List.getElem?_eq_getElem hi), ev_at (List.getElem?_eq_getElem hj)]
    exact this
theorem expl_sub {es fs : List Ent} {rk : List Int} (s : fs.Sublist es) (h : explB es rk = true) : explB fs rk = true := expl_iff.mpr ((expl_iff.mp h).sublist s)
theorem expl_nil {rk : List Int} : explB [] rk = true := expl_iff.mpr .nil
theorem insE_sub (e : Ent) : ∀ l : List Ent, l.Sublist (insE e l)
  | [] => List.Sublist.cons _ .slnil
  | f :: l => by
    unfold insE
    split
    · exact .cons _ (.refl _)
    · exact (insE_sub e l).cons₂ f
theorem withF_none {es : List Ent} {m : List Int} {p : Int} (h : pickF es m = none) : withF es m p = insE (m, p) es := by
  unfold withF
  have : es.filter (fun e => !decide (e.1 = m)) = es := List.filter_eq_self.mpr fun e he => by
    unfold pickF at h
    rw [Option.map_eq_none_iff, List.find?_eq_none] at h
    simpa using h e he
  rw [this]
/-! ### the rankings that explain a record -/
def expls (n : Nat) (es : List Ent) : List (List Int) := (ords n).filter (explB es)
theorem expls_len {n : Nat} {es : List Ent} (h : n ≤ 5) : (expls n es).length ≤ 3125 := Nat.le_trans (List.length_filter_le _ _) (ords_len h)
theorem expls_gen {n : Nat} {es : List Ent} (h : RecOk n es) : OnlyG m_rankings [recD n es] ((expls n es).map tupI) := rankings_ok h (by have := h.len; omega)
theorem expls_nil {n : Nat} : expls n [] = ords n := List.filter_eq_self.mpr fun rk _ => expl_nil
theorem expls_sub {n : Nat} {es fs : List Ent} (s : fs.Sublist es) : ∀ l ∈ expls n es, l ∈ expls n fs := fun l hl => by
  obtain ⟨a, b⟩ := List.mem_filter.mp hl
  exact List.mem_filter.mpr ⟨a, expl_sub s b⟩
theorem firstF_none {n : Nat} {es : List Ent} : firstF n es = none ↔ expls n es = [] := by
  unfold firstF expls
  rw [← List.head?_filter, List.head?_eq_none_iff]
/-! ### possible picks -/
theorem opNotN_ord {o : Option (List Int)} : opNotN (ordD o) .none = some (.bool o.isSome) := by cases o <;> rfl
def possF (n : Nat) (es : List Ent) (m : List Int) : List Int := m.filter fun t => (firstF n (withF es m t)).isSome
theorem withF_mem {es : List Ent} {m : List Int} {p : Int} {e : Ent} (h : e ∈ withF es m p) : e = (m, p) ∨ (e ∈ es ∧ e.1 ≠ m) := by
  rcases insE_mem.mp h with h | h
  · exact .inl h
  · exact .inr ⟨(List.mem_filter.mp h).1, by simpa using (List.mem_filter.mp h).2⟩
theorem expl_entry {n : Nat} {rk : List Int} {es : List Ent} {A : List Int → List Int} (ho : OrdOk n rk) (ok : EntOk n es) (at_ : AttOk n A) (st : Steady n A) (mk : Makes rk es A) {m : List Int} {p : Int} (hm : m ∈ menus n) (hp : TopOf rk (A m) p) : explB (withF es m p) rk = true := by
  have ok2 : EntOk n (withF es m p) := fun e he => by
    rcases withF_mem he with rfl | ⟨h, _⟩
    · exact ⟨hm, (at_ m hm).2 _ hp.1⟩
    · exact ok e h
  have mk2 : Makes rk (withF es m p) A := fun e he => by
    rcases withF_mem he with rfl | ⟨h, _⟩
    · exact hp
    · exact mk e h
  unfold explB
  rw [no_clash ho ok2 at_ st mk2]
  rfl
theorem expl_none {rk : List Int} {es : List Ent} (h : explB es rk = true) : fstP (fullB rk es) es.length = none := Option.isNone_iff_eq_none.mp h
theorem poss_of {n : Nat} {es : List Ent} {m rk : List Int} {p : Int} (ho : OrdOk n rk) (hp : p ∈ m) (h : explB (withF es m p) rk = true) : p ∈ possF n es m := by
  refine List.mem_filter.mpr ⟨hp, ?_⟩
  rw [firstF, List.find?_isSome]
  exact ⟨rk, ords_all ho, h⟩
theorem poss_top {n : Nat} {es : List Ent} {m rk : List Int} (ho : OrdOk n rk) (ok : EntOk n es) (ex : explB es rk = true) (hm : m ∈ menus n) : topF rk (greatF rk es m) ∈ possF n es m := by
  have ap := all_apart (expl_none ex)
  have ga := great_att ok ap
  have gm := (ga m hm).1
  have tp := (top_there ho gm).choose_spec.2
  exact poss_of ho ((ga m hm).2 _ tp.1) (expl_entry ho ok ga (great_steady ok ap) (great_makes ok ap) hm tp)
theorem poss_pick {n : Nat} {es : List Ent} {m rk : List Int} {p : Int} (ho : OrdOk n rk) (ok : EntOk n es) (ex : explB es rk = true) (hp : pickF es m = some p) : p ∈ possF n es m := by
  have he := pickF_in hp
  obtain ⟨hm, hpm⟩ := ok _ he
  have ap := all_apart (expl_none ex)
  exact poss_of ho hpm (expl_entry ho ok (great_att ok ap) (great_steady ok ap) (great_makes ok ap) hm (great_makes ok ap _ he))
theorem ver_word {n : Nat} {es : List Ent} : opIx (verD n es) (.int 0) = some (.str (if (firstF n es).isSome = true then "ranking" else "clashes")) := by
  unfold verD
  cases firstF n es <;> simp
/-! ### what may be overlooked -/
theorem ents_ext {a b : List Ent} (ha : a.Pairwise fun x y => HT.lexLt x.1 y.1 = true) (hb : b.Pairwise fun x y => HT.lexLt x.1 y.1 = true) (h : ∀ x, x ∈ a ↔ x ∈ b) : a = b := by
  have ir : ∀ e : Ent, HT.lexLt e.1 e.1 = false := fun e => lex_irr _
  have as : ∀ x y : Ent, HT.lexLt x.1 y.1 = true → HT.lexLt y.1 x.1 = false := fun x y => lex_asy
  have s1 := sub_of_sorted (lt := fun x y : Ent => HT.lexLt x.1 y.1) ir as ha hb fun x hx => (h x).mp hx
  have s2 := sub_of_sorted (lt := fun x y : Ent => HT.lexLt x.1 y.1) ir as hb ha fun x hx => (h x).mpr hx
  exact s1.eq_of_length_le s2.length_le
theorem ent_one {n : Nat} {es : List Ent} (h : RecOk n es) {a b : Ent} (ha : a ∈ es) (hb : b ∈ es) (e : a.1 = b.1) : a = b := by
  obtain ⟨i, hi, rfl⟩ := List.mem_iff_getElem.mp ha
  obtain ⟨j, hj, rfl⟩ := List.mem_iff_getElem.mp hb
  have pw := List.pairwise_iff_getElem.mp h.up
  rcases Nat.lt_trichotomy i j with q | q | q
  · exact absurd e (lex_ne (pw i j hi hj q))
  · subst q; rfl
  · exact absurd e.symm (lex_ne (pw j i hj hi q))
theorem withF_same {n : Nat} {es : List Ent} {m : List Int} {p : Int} (h : RecOk n es) (hp : pickF es m = some p) : withF es m p = es := by
  have he := pickF_in hp
  have hok := h.ent _ he
  refine ents_ext (withF_ok h hok.1 hok.2).up h.up fun x => ⟨fun hx => ?_, fun hx => ?_⟩
  · rcases withF_mem hx with rfl | ⟨h1, _⟩
    · exact he
    · exact h1
  · by_cases q : x.1 = m
    · rw [ent_one h hx he q]
      exact insE_mem.mpr (.inl rfl)
    · exact insE_mem.mpr (.inr (List.mem_filter.mpr ⟨hx, by simpa using q⟩))
def ovStep (rk : List Int) (p : Int) (same : List Int) (x : Int) : List Ent → List Ent → Option (List Ent)
  | [], acc => some acc
  | e :: r, acc => if e.2 = p ∧ lowF rk p e.1 = same then
      (match pickF acc (lessF e.1 x) with
        | none => ovStep rk p same x r (withF acc (lessF e.1 x) p)
        | some q => if q = p then ovStep rk p same x r acc else none)
    else ovStep rk p same x r acc
def ovF (rk : List Int) (es : List Ent) (e : Ent) (x : Int) : Bool := if x = e.2 then false else match ovStep rk e.2 (lowF rk e.2 e.1) x es es with
  | none => false
  | some acc => explB acc rk
theorem rest_ok {n : Nat} {rk : List Int} {es : List Ent} {e f : Ent} {x : Int} (h : RecOk n es) (he : e ∈ es) (hf : f ∈ es) (hx : x ∈ lowF rk e.2 e.1) (ne : x ≠ e.2) (q : f.2 = e.2 ∧ lowF rk e.2 f.1 = lowF rk e.2 e.1) : MenuOk n (lessF f.1 x) ∧ e.2 ∈ lessF f.1 x := by
  obtain ⟨fm, fp⟩ := h.ent f hf
  have hp : e.2 ∈ lessF f.1 x := less_mem.mpr ⟨q.1 ▸ fp, Ne.symm ne⟩
  have n5 : n ≤ 5 := by have := h.n5; omega
  exact ⟨menus_ok n5 _ (menus_fil (menus_in fm) (List.ne_nil_of_mem hp)), hp⟩
theorem opNotIn_two {o : Option Int} {p : Int} : opNotIn (optD o) (.tuple [.none, .int p]) = some (.bool (match o with | none => false | some q => !decide (q = p))) := by
  cases o with
  | none => rfl
  | some q =>
    show some (PyData.bool (!(PyData.eqv .none (.int q) || (PyData.eqv (.int p) (.int q) || false)))) = _
    have e : PyData.eqv .none (.int q) = false := rfl
    rw [e, eqv_int, Bool.false_or, Bool.or_false]
    congr 2
    rw [Bool.eq_iff_iff]
    simp only [Bool.not_eq_true', beq_eq_false_iff_ne, ne_eq, decide_eq_false_iff_not]
    exact ⟨fun h z => h z.symm, fun h z => h z.symm⟩
theorem lay_low {l : List Int} : lay 1 (tupI l) := lay_tupI
/-! ### noticed -/
def aboveB (rk : List Int) (x p : Int) : Bool := decide (pos rk x < pos rk p)
def missB (rk : List Int) (es : List Ent) (e : Ent) (x : Int) : Bool := aboveB rk x e.2 || ovF rk es e x
def noteF (G : List (List Int)) (es : List Ent) (e : Ent) (x : Int) : PyData :=
  if G = [] then .none else if (G.any fun rk => missB rk es e x) = false then .str "always" else if (G.any fun rk => !aboveB rk x e.2) = true then .str "sometimes" else .str "never"
/-! ### noticed, in all explanations -/
structure ExA (n : Nat) (rk : List Int) (es : List Ent) (A : List Int → List Int) : Prop where
  att : AttOk n A
  st : Steady n A
  pk : Makes rk es A
theorem ExA.expl {n : Nat} {rk : List Int} {es : List Ent} {A : List Int → List Int} (ho : OrdOk n rk) (ok : EntOk n es) (h : ExA n rk es A) : explB es rk = true := by
  unfold explB
  rw [no_clash ho ok h.att h.st h.pk]
  rfl
theorem great_ex {n : Nat} {rk : List Int} {es : List Ent} (ok : EntOk n es) (ex : explB es rk = true) : ExA n rk es (greatF rk es) :=
  have ap := all_apart (expl_none ex)
  ⟨great_att ok ap, great_steady ok ap, great_makes ok ap⟩
theorem top_uniq {n : Nat} {rk l : List Int} {p q : Int} (ho : OrdOk n rk) (hl : ∀ x ∈ l, 0 ≤ x ∧ x < (n : Int)) (h1 : TopOf rk l p) (h2 : TopOf rk l q) : p = q :=
  pos_inj ho (hl _ h1.1) (hl _ h2.1) (Int.le_antisymm (h1.2 _ h2.1) (h2.2 _ h1.1))
theorem withF_in {es : List Ent} {m : List Int} {p : Int} : (m, p) ∈ withF es m p := insE_mem.mpr (.inl rfl)
theorem withF_keep {es : List Ent} {m : List Int} {p : Int} (h : pickF es m = none) {f : Ent} (hf : f ∈ es) : f ∈ withF es m p := by
  rw [withF_none h]
  exact insE_mem.mpr (.inr hf)
theorem ovStep_some {rk : List Int} {p : Int} {same : List Int} {x : Int} : ∀ {l acc acc' : List Ent}, ovStep rk p same x l acc = some acc' →
    (∀ f ∈ acc, f ∈ acc') ∧ (∀ f ∈ acc', f ∈ acc ∨ ∃ g ∈ l, (g.2 = p ∧ lowF rk p g.1 = same) ∧ f = (lessF g.1 x, p)) ∧ ∀ g ∈ l, g.2 = p ∧ lowF rk p g.1 = same → (lessF g.1 x, p) ∈ acc'
  | [], acc, acc', h => by
    cases h
    exact ⟨fun f hf => hf, fun f hf => .inl hf, fun g hg => by cases hg⟩
  | e :: r, acc, acc', h => by
    unfold ovStep at h
    by_cases q : e.2 = p ∧ lowF rk p e.1 = same
    · rw [if_pos q] at h
      cases hp : pickF acc (lessF e.1 x) with
      | none =>
        rw [hp] at h
        obtain ⟨h1, h2, h3⟩ := ovStep_some h
        refine ⟨fun f hf => h1 f (withF_keep hp hf), fun f hf => ?_, fun g hg hq => ?_⟩
        · rcases h2 f hf with z | ⟨g, hg, z⟩
          · rcases withF_mem z with z | ⟨z, _⟩
            · exact .inr ⟨e, List.mem_cons_self, q, z⟩
            · exact .inl z
          · exact .inr ⟨g, List.mem_cons_of_mem _ hg, z⟩
        · rcases List.mem_cons.mp hg with rfl | hg
          · exact h1 _ withF_in
          · exact h3 g hg hq
      | some q' =>
        rw [hp] at h
        have h : (if q' = p then ovStep rk p same x r acc else none) = some acc' := h
        by_cases z : q' = p
        · rw [if_pos z] at h
          obtain ⟨h1, h2, h3⟩ := ovStep_some h
          refine ⟨h1, fun f hf => ?_, fun g hg hq => ?_⟩
          · rcases h2 f hf with z | ⟨g, hg, z⟩
            · exact .inl z
            · exact .inr ⟨g, List.mem_cons_of_mem _ hg, z⟩
          · rcases List.mem_cons.mp hg with rfl | hg
            · exact h1 _ (z ▸ pickF_in hp)
            · exact h3 g hg hq
        · rw [if_neg z] at h; cases h
    · rw [if_neg q] at h
      obtain ⟨h1, h2, h3⟩ := ovStep_some h
      refine ⟨h1, fun f hf => ?_, fun g hg hq => ?_⟩
      · rcases h2 f hf with z | ⟨g, hg, z⟩
        · exact .inl z
        · exact .inr ⟨g, List.mem_cons_of_mem _ hg, z⟩
      · rcases List.mem_cons.mp hg with rfl | hg
        · exact absurd hq q
        · exact h3 g hg hq
theorem ovStep_ok {n : Nat} {rk : List Int} {p : Int} {same : List Int} {x : Int} {A : List Int → List Int} (ho : OrdOk n rk) (att : AttOk n A) : ∀ {l acc : List Ent}, EntOk n acc → Makes rk acc A → (∀ g ∈ l, g.2 = p ∧ lowF rk p g.1 = same → lessF g.1 x ∈ menus n ∧ TopOf rk (A (lessF g.1 x)) p) →
    ∃ acc', ovStep rk p same x l acc = some acc' ∧ EntOk n acc' ∧ Makes rk acc' A
  | [], acc, ok, mk, _ => ⟨acc, rfl, ok, mk⟩
  | e :: r, acc, ok, mk, h => by
    have hr : ∀ g ∈ r, g.2 = p ∧ lowF rk p g.1 = same → lessF g.1 x ∈ menus n ∧ TopOf rk (A (lessF g.1 x)) p := fun g hg => h g (List.mem_cons_of_mem _ hg)
    unfold ovStep
    by_cases q : e.2 = p ∧ lowF rk p e.1 = same
    · rw [if_pos q]
      obtain ⟨hm, ht⟩ := h e List.mem_cons_self q
      cases hp : pickF acc (lessF e.1 x) with
      | none =>
        refine ovStep_ok ho att (fun f hf => ?_) (fun f hf => ?_) hr
        · rcases withF_mem hf with rfl | ⟨z, _⟩
          · exact ⟨hm, (att _ hm).2 _ ht.1⟩
          · exact ok f z
        · rcases withF_mem hf with rfl | ⟨z, _⟩
          · exact ht
          · exact mk f z
      | some q' =>
        have e1 := mk _ (pickF_in hp)
        have : q' = p := top_uniq ho (menus_mem.mp (att _ hm).1).2.2 e1 ht
        show ∃ acc', (if q' = p then ovStep rk p same x r acc else none) = some acc' ∧ _
        rw [if_pos this]
        exact ovStep_ok ho att ok mk hr
    · rw [if_neg q]
      exact ovStep_ok ho att ok mk hr
/-- overlooked in an explanation: by the added entries, too -/
theorem ov_of {n : Nat} {rk : List Int} {es : List Ent} {e : Ent} {x : Int} {A : List Int → List Int} (ho : OrdOk n rk) (ok : EntOk n es) (h : ExA n rk es A) (he : e ∈ es) (hx : x ∈ e.1) (hn : x ∉ A e.1) : ovF rk es e x = true := by
  obtain ⟨hm, hpm⟩ := ok e he
  have top := h.pk e he
  have ne : x ≠ e.2 := fun z => hn (z ▸ top.1)
  have Lm : lowF rk e.2 e.1 ∈ menus n := menus_fil hm (List.ne_nil_of_mem (low_mem.mpr ⟨hpm, Int.le_refl _⟩))
  have cls : ∀ g ∈ es, g.2 = e.2 ∧ lowF rk e.2 g.1 = lowF rk e.2 e.1 → A g.1 = A e.1 := fun g hg ⟨q1, q2⟩ => by
    have low : ∀ f ∈ es, f.2 = e.2 → ∀ y ∈ A f.1, y ∈ lowF rk e.2 f.1 := fun f hf z y hy => low_mem.mpr ⟨(h.att _ (ok f hf).1).2 y hy, z ▸ (h.pk f hf).2 y hy⟩
    have b1 := between h.att h.st e.1.length e.1 (lowF rk e.2 e.1) (Nat.le_refl _) hm Lm (low e he rfl) (fun y hy => (low_mem.mp hy).1)
    have b2 := between h.att h.st g.1.length g.1 (lowF rk e.2 e.1) (Nat.le_refl _) (ok g hg).1 Lm (fun y hy => q2 ▸ low g hg q1 y hy) (fun y hy => by rw [← q2] at hy; exact (low_mem.mp hy).1)
    exact b2.symm.trans b1
  have xL : ∀ g ∈ es, g.2 = e.2 ∧ lowF rk e.2 g.1 = lowF rk e.2 e.1 → lessF g.1 x ∈ menus n ∧ TopOf rk (A (lessF g.1 x)) e.2 := fun g hg q => by
    have eA := cls g hg q
    have hm2 := less_menu h.att (ok g hg).1 (x := x) (by rw [eA]; exact hn)
    refine ⟨hm2, ?_⟩
    by_cases xin : x ∈ g.1
    · rw [h.st g.1 (ok g hg).1 x xin (by rw [eA]; exact hn), eA]; exact top
    · have : lessF g.1 x = g.1 := List.filter_eq_self.mpr fun y hy => by
        have : y ≠ x := fun z => xin (z ▸ hy)
        simpa using this
      rw [this, eA]; exact top
  obtain ⟨acc, s1, s2, s3⟩ := ovStep_ok ho h.att ok h.pk xL
  unfold ovF
  rw [if_neg ne, s1]
  exact ExA.expl ho s2 ⟨h.att, h.st, s3⟩
/-- by the added entries: overlooked in an explanation -/
theorem ov_true {n : Nat} {rk : List Int} {es : List Ent} {e : Ent} {x : Int} (ho : OrdOk n rk) (h5 : n ≤ 5) (ok : EntOk n es) (he : e ∈ es) (hx : x ∈ lowF rk e.2 e.1) (hov : ovF rk es e x = true) : ∃ A, ExA n rk es A ∧ x ∉ A e.1 := by
  obtain ⟨hm, hpm⟩ := ok e he
  unfold ovF at hov
  by_cases ne : x = e.2
  · rw [if_pos ne] at hov; cases hov
  rw [if_neg ne] at hov
  cases hs : ovStep rk e.2 (lowF rk e.2 e.1) x es es with
  | none => rw [hs] at hov; cases hov
  | some acc =>
    rw [hs] at hov
    have hov : explB acc rk = true := hov
    obtain ⟨t1, t2, t3⟩ := ovStep_some hs
    generalize hL : lowF rk e.2 e.1 = L at *
    have pL : e.2 ∈ L := by rw [← hL]; exact low_mem.mpr ⟨hpm, Int.le_refl _⟩
    have rgm : ∀ M ∈ menus n, ∀ y ∈ M, 0 ≤ y ∧ y < (n : Int) := fun M hM => (menus_mem.mp hM).2.2
    have okA : EntOk n acc := fun f hf => by
      rcases t2 f hf with z | ⟨g, hg, q, rfl⟩
      · exact ok f z
      · have hp : e.2 ∈ lessF g.1 x := less_mem.mpr ⟨q.1 ▸ (ok g hg).2, Ne.symm ne⟩
        exact ⟨menus_fil (ok g hg).1 (List.ne_nil_of_mem hp), hp⟩
    have g0 := great_ex okA hov
    have apA := all_apart (expl_none hov)
    -- covered by an entry of the class
    let cB : List Int → Bool := fun T => es.any fun g => decide (g.2 = e.2 ∧ lowF rk e.2 g.1 = L) && covB rk g T
    have cov : ∀ T, cB T = true ↔ ∃ g ∈ es, (g.2 = e.2 ∧ lowF rk e.2 g.1 = L) ∧ (∀ y ∈ T, y ∈ g.1) ∧ ∀ y ∈ L, y ∈ T := fun T => by
      simp only [cB, List.any_eq_true, Bool.and_eq_true, decide_eq_true_eq]
      refine ⟨fun ⟨g, hg, q, c⟩ => ⟨g, hg, q, (cov_iff.mp c).1, fun y hy => ?_⟩, fun ⟨g, hg, q, c1, c2⟩ => ⟨g, hg, q, cov_iff.mpr ⟨c1, fun y hy h => c2 y ?_⟩⟩⟩
      · rw [← q.2] at hy
        obtain ⟨z1, z2⟩ := low_mem.mp hy
        exact (cov_iff.mp c).2 y z1 (by rw [q.1]; exact z2)
      · rw [← q.2]
        exact low_mem.mpr ⟨hy, by rw [← q.1]; exact h⟩
    have mem_acc : ∀ g ∈ es, g ∈ acc := t1
    have gL : ∀ T ∈ menus n, cB T = true → greatF rk acc T = L := fun T hT c => by
      obtain ⟨g, hg, q, c1, c2⟩ := (cov T).mp c
      have cg : covB rk g T = true := cov_iff.mpr ⟨c1, fun y hy h => c2 y (by rw [← q.2]; exact low_mem.mpr ⟨hy, by rw [← q.1]; exact h⟩)⟩
      rw [great_cov okA apA (t1 g hg) cg, q.1]
      refine up_ext ((menus_mem.mp hT).2.1.filter _) (by rw [← hL]; exact (menus_mem.mp hm).2.1.filter _) fun y => ⟨fun hy => ?_, fun hy => ?_⟩
      · obtain ⟨z1, z2⟩ := low_mem.mp hy
        rw [← q.2]
        exact low_mem.mpr ⟨c1 y z1, z2⟩
      · refine low_mem.mpr ⟨c2 y hy, ?_⟩
        rw [← hL] at hy
        exact (low_mem.mp hy).2
    have gX : ∀ T ∈ menus n, cB T = true → x ∈ T → greatF rk acc (lessF T x) = lessF L x := fun T hT c hxT => by
      obtain ⟨g, hg, q, c1, c2⟩ := (cov T).mp c
      have hin := t3 g hg q
      have cg : covB rk (lessF g.1 x, e.2) (lessF T x) = true := cov_iff.mpr ⟨fun y hy => less_mem.mpr ⟨c1 y (less_mem.mp hy).1, (less_mem.mp hy).2⟩, fun y hy h => less_mem.mpr ⟨c2 y (by rw [← q.2]; exact low_mem.mpr ⟨(less_mem.mp hy).1, h⟩), (less_mem.mp hy).2⟩⟩
      rw [great_cov okA apA hin cg]
      have up1 : (lessF T x).Pairwise (· < ·) := (menus_mem.mp hT).2.1.filter _
      have upL : L.Pairwise (· < ·) := by rw [← hL]; exact (menus_mem.mp hm).2.1.filter _
      refine up_ext (up1.filter _) (upL.filter _) fun y => ⟨fun hy => ?_, fun hy => ?_⟩
      · obtain ⟨z1, z2⟩ := low_mem.mp hy
        obtain ⟨z3, z4⟩ := less_mem.mp z1
        exact less_mem.mpr ⟨by rw [← q.2]; exact low_mem.mpr ⟨c1 y z3, z2⟩, z4⟩
      · obtain ⟨z3, z4⟩ := less_mem.mp hy
        refine low_mem.mpr ⟨less_mem.mpr ⟨c2 y z3, z4⟩, ?_⟩
        rw [← hL] at z3
        exact (low_mem.mp z3).2
    have topL : ∀ y ∈ L, pos rk e.2 ≤ pos rk y := fun y hy => by
      rw [← hL] at hy
      exact (low_mem.mp hy).2
    have Lmen : lowF rk e.2 e.1 ∈ menus n := menus_fil hm (List.ne_nil_of_mem (low_mem.mpr ⟨hpm, Int.le_refl _⟩))
    rw [hL] at Lmen
    have LX : lessF L x ∈ menus n := menus_fil Lmen (List.ne_nil_of_mem (less_mem.mpr ⟨pL, Ne.symm ne⟩))
    refine ⟨fun T => if cB T = true then lessF L x else greatF rk acc T, ⟨fun T hT => ?_, fun T hT y hy hn => ?_, fun f hf => ?_⟩, ?_⟩
    · by_cases c : cB T = true
      · simp only [if_pos c]
        refine ⟨LX, fun y hy => ?_⟩
        obtain ⟨g, hg, q, c1, c2⟩ := (cov T).mp c
        exact c2 y (less_mem.mp hy).1
      · simp only [if_neg c]
        exact g0.att T hT
    · by_cases c : cB T = true
      · simp only [if_pos c] at hn ⊢
        obtain ⟨g, hg, q, c1, c2⟩ := (cov T).mp c
        by_cases yx : y = x
        · subst yx
          have nc : ¬ cB (lessF T y) = true := fun z => by
            obtain ⟨_, _, _, _, c4⟩ := (cov _).mp z
            exact (less_mem.mp (c4 y hx)).2 rfl
          rw [if_neg nc]
          exact gX T hT c hy
        · have yL : y ∉ L := fun z => hn (less_mem.mpr ⟨z, yx⟩)
          have c' : cB (lessF T y) = true := (cov _).mpr ⟨g, hg, q, fun w hw => c1 w (less_mem.mp hw).1, fun w hw => less_mem.mpr ⟨c2 w hw, fun z => yL (z ▸ hw)⟩⟩
          rw [if_pos c']
      · simp only [if_neg c] at hn ⊢
        have s0 := g0.st T hT y hy hn
        have nc : ¬ cB (lessF T y) = true := fun z => by
          have hT2 := less_menu g0.att hT hn
          have e1 := gL _ hT2 z
          rw [s0] at e1
          -- what is noticed in T is L: T is covered by the class, or it is L
          rcases cov_or rk T acc with ⟨k, hk, ck⟩ | hnone
          · have e2 := great_cov okA apA hk ck
            rw [e1] at e2
            have kok := okA k hk
            have kT : k.2 ∈ T := (cov_iff.mp ck).2 _ kok.2 (Int.le_refl _)
            have kp : k.2 = e.2 := by
              have h1 : k.2 ∈ L := by rw [e2]; exact low_mem.mpr ⟨kT, Int.le_refl _⟩
              have h2 : e.2 ∈ lowF rk k.2 T := by rw [← e2]; exact pL
              exact pos_inj ho (rgm T hT _ kT) (rgm _ hm _ hpm) (Int.le_antisymm (low_mem.mp h2).2 (topL _ h1))
            have kl : lowF rk e.2 k.1 = L := by
              rw [e2, kp]
              refine up_ext ((menus_mem.mp kok.1).2.1.filter _) ((menus_mem.mp hT).2.1.filter _) fun w => ⟨fun hw => ?_, fun hw => ?_⟩
              · obtain ⟨z1, z2⟩ := low_mem.mp hw
                exact low_mem.mpr ⟨(cov_iff.mp ck).2 w z1 (by rw [kp]; exact z2), z2⟩
              · obtain ⟨z1, z2⟩ := low_mem.mp hw
                exact low_mem.mpr ⟨(cov_iff.mp ck).1 w z1, z2⟩
            rcases t2 k hk with hk2 | ⟨g, hg, q, rfl⟩
            · exact c ((cov T).mpr ⟨k, hk2, ⟨kp, kl⟩, (cov_iff.mp ck).1, fun w hw => by rw [e2] at hw; exact (low_mem.mp hw).1⟩)
            · have : x ∈ lowF rk e.2 (lessF g.1 x) := by rw [kl]; exact hx
              exact (less_mem.mp (low_mem.mp this).1).2 rfl
          · rw [great_none hnone] at e1
            obtain ⟨_, _, _, _, c4⟩ := (cov _).mp z
            have : y ∈ L := by rw [← e1]; exact hy
            exact (less_mem.mp (c4 y this)).2 rfl
        rw [if_neg nc]
        exact s0
    · by_cases c : cB f.1 = true
      · simp only [if_pos c]
        have t := g0.pk f (t1 f hf)
        rw [gL f.1 (ok f hf).1 c] at t
        have fe : f.2 = e.2 := pos_inj ho (rgm _ (ok f hf).1 _ (ok f hf).2) (rgm _ hm _ hpm) (Int.le_antisymm (t.2 _ pL) (topL _ t.1))
        rw [fe]
        exact ⟨less_mem.mpr ⟨pL, Ne.symm ne⟩, fun y hy => topL y (less_mem.mp hy).1⟩
      · simp only [if_neg c]
        exact g0.pk f (t1 f hf)
    · have c : cB e.1 = true := (cov _).mpr ⟨e, he, ⟨rfl, hL⟩, fun y hy => hy, fun y hy => by rw [← hL] at hy; exact (low_mem.mp hy).1⟩
      simp only [if_pos c]
      exact fun z => (less_mem.mp z).2 rfl
/-- what noticed tells is so in the explanations -/
theorem note_always {n : Nat} {es : List Ent} {e : Ent} {x : Int} (h5 : n ≤ 5) (ok : EntOk n es) (he : e ∈ es) (hx : x ∈ e.1) : (∀ rk ∈ expls n es, missB rk es e x = false) ↔ ∀ rk ∈ ords n, ∀ A, ExA n rk es A → x ∈ A e.1 := by
  refine ⟨fun h rk hrk A ex => ?_, fun h rk hrk => ?_⟩
  · have ho := ords_ok hrk
    have m := h rk (List.mem_filter.mpr ⟨hrk, ExA.expl ho ok ex⟩)
    by_cases z : x ∈ A e.1
    · exact z
    · have := ov_of ho ok ex he hx z
      unfold missB at m
      rw [this, Bool.or_true] at m
      cases m
  · obtain ⟨h1, h2⟩ := List.mem_filter.mp hrk
    have ho := ords_ok h1
    cases m : missB rk es e x with
    | false => rfl
    | true =>
      exfalso
      have g0 := great_ex ok h2
      have xin := h rk h1 _ g0
      have ge := (g0.pk e he).2 _ xin
      have na : aboveB rk x e.2 = false := by simpa [aboveB] using ge
      unfold missB at m
      rw [na, Bool.false_or] at m
      obtain ⟨A, ex, hn⟩ := ov_true ho h5 ok he (low_mem.mpr ⟨hx, ge⟩) m
      exact hn (h rk h1 A ex)
theorem note_never {n : Nat} {es : List Ent} {e : Ent} {x : Int} (ok : EntOk n es) (he : e ∈ es) (hx : x ∈ e.1) : (∀ rk ∈ expls n es, aboveB rk x e.2 = true) ↔ ∀ rk ∈ ords n, ∀ A, ExA n rk es A → x ∉ A e.1 := by
  refine ⟨fun h rk hrk A ex z => ?_, fun h rk hrk => ?_⟩
  · have ho := ords_ok hrk
    have m := h rk (List.mem_filter.mpr ⟨hrk, ExA.expl ho ok ex⟩)
    have := (ex.pk e he).2 _ z
    simp [aboveB] at m
    omega
  · obtain ⟨h1, h2⟩ := List.mem_filter.mp hrk
    have g0 := great_ex ok h2
    have xn := h rk h1 _ g0
    have ap := all_apart (expl_none h2)
    have c : covB rk e e.1 = true := cov_iff.mpr ⟨fun y hy => hy, fun y hy _ => hy⟩
    rw [great_cov ok ap he c] at xn
    cases m : aboveB rk x e.2 with
    | true => rfl
    | false =>
      exfalso
      refine xn (low_mem.mpr ⟨hx, ?_⟩)
      simpa [aboveB] using m
theorem note_none {n : Nat} {es : List Ent} (ok : EntOk n es) : expls n es = [] ↔ ∀ rk ∈ ords n, ∀ A, ¬ ExA n rk es A := by
  rw [expls, List.filter_eq_nil_iff]
  refine ⟨fun h rk hrk A ex => h rk hrk (ExA.expl (ords_ok hrk) ok ex), fun h rk hrk z => h rk hrk _ (great_ex ok z)⟩
/-! ### all explanations, by a law -/
abbrev Expl := List Int × List (List Int)
def xD (p : Expl) : PyData := .tuple [tupI p.1, tabD p.2]
def stOnes (n : Nat) : List (List (List Int)) := (tabs n (menus n).length).filter (steadyB n)
def xOf (n : Nat) (es : List Ent) (rk : List Int) : List Expl := ((stOnes n).filter (makesB n rk es)).map fun A => (rk, A)
def allX (n : Nat) (es : List Ent) : List Expl := (ords n).flatMap (xOf n es)
theorem opAdd_lists {a b : List PyData} (h : a.length + b.length ≤ 16777216) : opAdd (.list a) (.list b) = some (.list (a ++ b)) := by
  show (if a.length + b.length ≤ 16777216 then some (PyData.list (a ++ b)) else none) = _
  rw [if_pos h]
theorem st_mem {n : Nat} (h5 : n ≤ 5) {A : List (List Int)} : A ∈ stOnes n ↔ TabOk n A ∧ Steady n (look n A) := by rw [stOnes, List.mem_filter, tab_ok h5, steady_iff]
theorem st_len {n : Nat} (h : n ≤ 3) : (stOnes n).length ≤ 1000 := Nat.le_trans (List.length_filter_le _ _) (tabs_few h _ (Nat.le_refl _))
theorem xOf_len {n : Nat} {es : List Ent} {rk : List Int} (h : n ≤ 3) : (xOf n es rk).length ≤ 1000 := by
  unfold xOf
  rw [List.length_map]
  exact Nat.le_trans (List.length_filter_le _ _) (st_len h)
theorem allX_mem {n : Nat} {es : List Ent} (h5 : n ≤ 5) (eok : EntOk n es) {p : Expl} : p ∈ allX n es ↔ p.1 ∈ ords n ∧ TabOk n p.2 ∧ ExA n p.1 es (look n p.2) := by
  obtain ⟨rk, A⟩ := p
  unfold allX xOf
  rw [List.mem_flatMap]
  refine ⟨fun ⟨r, hr, hA⟩ => ?_, fun ⟨h1, h2, h3⟩ => ⟨rk, h1, List.mem_map.mpr ⟨A, List.mem_filter.mpr ⟨(st_mem h5).mpr ⟨h2, h3.st⟩, (makes_iff (ords_ok h1) eok h2).mpr h3.pk⟩, rfl⟩⟩⟩
  obtain ⟨B, hB, e⟩ := List.mem_map.mp hA
  cases e
  obtain ⟨h1, h2⟩ := List.mem_filter.mp hB
  obtain ⟨h3, h4⟩ := (st_mem h5).mp h1
  exact ⟨hr, h3, ⟨h3.2, h4, (makes_iff (ords_ok hr) eok h3).mp h2⟩⟩
def shareF (e a y : Bool) : PyData := if e = true then .none else if a = true then .str "always" else if y = true then .str "sometimes" else .str "never"
theorem note_share {n : Nat} {es : List Ent} {e : Ent} {x : Int} (h5 : n ≤ 5) (eok : EntOk n es) (he : e ∈ es) (hx : x ∈ e.1) : noteF (expls n es) es e x = shareF (allX n es).isEmpty ((allX n es).all fun p => decide (x ∈ look n p.2 e.1)) ((allX n es).any fun p => decide (x ∈ look n p.2 e.1)) := by
  have tabs_of : ∀ rk ∈ ords n, ∀ A, ExA n rk es A → ∃ B, (rk, B) ∈ allX n es ∧ ∀ T ∈ menus n, look n B T = A T := fun rk hrk A ex => by
    have lk : ∀ T ∈ menus n, look n ((menus n).map A) T = A T := fun T hT => look_map h5 hT
    refine ⟨(menus n).map A, (allX_mem h5 eok).mpr ⟨hrk, ⟨by rw [List.length_map], fun T hT => by rw [lk T hT]; exact ex.att T hT⟩, ⟨fun T hT => by rw [lk T hT]; exact ex.att T hT, fun T hT y hy hn => ?_, fun f hf => by rw [lk _ (eok f hf).1]; exact ex.pk f hf⟩⟩, lk⟩
    rw [lk T hT] at hn ⊢
    rw [lk _ (less_menu ex.att hT hn)]
    exact ex.st T hT y hy hn
  have hm := (eok e he).1
  have none_ : expls n es = [] ↔ allX n es = [] := by
    rw [note_none eok]
    refine ⟨fun h => List.eq_nil_iff_forall_not_mem.mpr fun p hp => ?_, fun h rk hrk A ex => ?_⟩
    · obtain ⟨h1, _, h2⟩ := (allX_mem h5 eok).mp hp
      exact h p.1 h1 _ h2
    · obtain ⟨B, hB, _⟩ := tabs_of rk hrk A ex
      rw [h] at hB; cases hB
  have all_ : (∀ rk ∈ expls n es, missB rk es e x = false) ↔ ∀ p ∈ allX n es, x ∈ look n p.2 e.1 := by
    rw [note_always h5 eok he hx]
    refine ⟨fun h p hp => ?_, fun h rk hrk A ex => ?_⟩
    · obtain ⟨h1, _, h2⟩ := (allX_mem h5 eok).mp hp
      exact h p.1 h1 _ h2
    · obtain ⟨B, hB, lk⟩ := tabs_of rk hrk A ex
      have := h _ hB
      rwa [lk _ hm] at this
  have any_ : (∀ rk ∈ expls n es, aboveB rk x e.2 = true) ↔ ∀ p ∈ allX n es, x ∉ look n p.2 e.1 := by
    rw [note_never eok he hx]
    refine ⟨fun h p hp => ?_, fun h rk hrk A ex => ?_⟩
    · obtain ⟨h1, _, h2⟩ := (allX_mem h5 eok).mp hp
      exact h p.1 h1 _ h2
    · obtain ⟨B, hB, lk⟩ := tabs_of rk hrk A ex
      have := h _ hB
      rwa [lk _ hm] at this
  have b1 : decide (expls n es = []) = (allX n es).isEmpty := by
    rw [Bool.eq_iff_iff, decide_eq_true_eq, List.isEmpty_iff]
    exact none_
  have b2 : (!(expls n es).any fun rk => missB rk es e x) = (allX n es).all fun p => decide (x ∈ look n p.2 e.1) := by
    rw [Bool.eq_iff_iff, List.all_eq_true]
    simp only [Bool.not_eq_true', List.any_eq_false, decide_eq_true_eq]
    rw [← all_]
    exact ⟨fun h rk hrk => by simpa using h rk hrk, fun h rk hrk => by simp [h rk hrk]⟩
  have b3 : ((expls n es).any fun rk => !aboveB rk x e.2) = (allX n es).any fun p => decide (x ∈ look n p.2 e.1) := by
    rw [Bool.eq_iff_iff, ← Bool.not_inj_iff]
    have : ((expls n es).any fun rk => !aboveB rk x e.2) = false ↔ ((allX n es).any fun p => decide (x ∈ look n p.2 e.1)) = false := by
      rw [List.any_eq_false, List.any_eq_false]
      simp only [Bool.not_eq_true', Bool.not_eq_false, decide_eq_true_eq]
      exact any_
    generalize ((expls n es).any fun rk => !aboveB rk x e.2) = u at *
    generalize ((allX n es).any fun p => decide (x ∈ look n p.2 e.1)) = v at *
    cases u <;> cases v <;> simp_all
  unfold noteF shareF
  rw [← b1, ← b2, ← b3]
  by_cases q : expls n es = []
  · simp [q]
  · rw [if_neg q]
    have dq : decide (expls n es = []) = false := by simpa using q
    rw [dq]
    generalize ((expls n es).any fun rk => missB rk es e x) = u
    cases u <;> rfl
theorem note_words {G : List (List Int)} {es : List Ent} {e : Ent} {x : Int} : Rep 0 20 (noteF G es e x) := by
  unfold noteF
  have r1 : Rep 0 20 (.str "always") := ⟨⟨by decide +kernel, by decide +kernel⟩, by decide +kernel, by decide +kernel⟩
  have r2 : Rep 0 20 (.str "sometimes") := ⟨⟨by decide +kernel, by decide +kernel⟩, by decide +kernel, by decide +kernel⟩
  have r3 : Rep 0 20 (.str "never") := ⟨⟨by decide +kernel, by decide +kernel⟩, by decide +kernel, by decide +kernel⟩
  split
  · exact rep_none
  · split
    · exact r1
    · split
      · exact r2
      · exact r3
/-! ### rows of positions -/
@[simp] theorem eIxO_at {i : Nat} {fb : ED} {st : Sta} : eIxO i fb st = match st.r[i]? with
    | some (.own _) => (fb st).bind fun k s => match s.r[i]?, k with
      | some (.own l), .int j => match atI l j with
        | some y => .ok y s
        | none => .bad
      | _, _ => .bad
    | _ => .bad := by unfold eIxO; rfl
def lvC (l : List Int) (x : Int) : Bool := l.isEmpty || decide (x > l.getLastD 0)
def lvStep (N : Nat) (rows : List (List Int)) : List (List Int) := rows.flatMap fun l => ((upTo N).filter (lvC l)).map fun x => l ++ [x]
def lv (N : Nat) : Nat → List (List Int)
  | 0 => [[]]
  | k + 1 => lvStep N (lv N k)
def rowsUp (N most : Nat) : List (List Int) := ((List.range (most + 1)).map (lv N)).flatten
theorem lv_len {N : Nat} (h : N ≤ 31) : ∀ k, (lv N k).length ≤ 31 ^ k
  | 0 => Nat.le_refl _
  | k + 1 => by
    have h2 := flat_len (f := fun l => ((upTo N).filter (lvC l)).map fun x => l ++ [x]) (k := 31) (lv N k) fun l _ => by
      rw [List.length_map]
      exact Nat.le_trans (List.length_filter_le _ _) (by rw [upTo_len]; exact h)
    have := lv_len h k
    show (lvStep N (lv N k)).length ≤ _
    unfold lvStep
    rw [Nat.pow_succ]
    omega
theorem lv_in {N : Nat} : ∀ k, ∀ l ∈ lv N k, l.length = k ∧ ∀ x ∈ l, 0 ≤ x ∧ x < (N : Int)
  | 0, l, h => by rw [List.mem_singleton.mp h]; exact ⟨rfl, fun x h => by cases h⟩
  | k + 1, l, h => by
    obtain ⟨m, hm, hl⟩ := List.mem_flatMap.mp h
    obtain ⟨x, hx, rfl⟩ := List.mem_map.mp hl
    obtain ⟨h1, h2⟩ := lv_in k m hm
    refine ⟨by rw [List.length_append, h1]; rfl, fun y hy => ?_⟩
    rcases List.mem_append.mp hy with hy | hy
    · exact h2 y hy
    · rw [List.mem_singleton.mp hy]; exact upTo_mem.mp (List.mem_filter.mp hx).1
theorem rowsUp_len {N most : Nat} (h : N ≤ 31) (hm : most ≤ 2) : (rowsUp N most).length ≤ 961 * 3 := by
  have e : rowsUp N most = (List.range (most + 1)).flatMap (lv N) := by unfold rowsUp; rw [List.flatMap_def]
  rw [e]
  have := flat_len (f := lv N) (k := 961) (List.range (most + 1)) fun j hj => by
    have := lv_len h j
    have hj := List.mem_range.mp hj
    exact Nat.le_trans this (show 31 ^ j ≤ 31 ^ 2 from Nat.pow_le_pow_right (by decide) (by omega))
  rw [List.length_range] at this
  omega
theorem lastI {l : List Int} (h : l ≠ []) : atI (l.map PyData.int) (-1) = some (.int (l.getLastD 0)) := by
  have e := List.dropLast_concat_getLast h
  have e2 : l.getLastD 0 = l.getLast h := by
    rw [List.getLastD_eq_getLast?, List.getLast?_eq_some_getLast h]; rfl
  rw [e2]
  conv => lhs; rw [← e]
  rw [List.map_append]
  exact atI_last _ _
/-! ### all pairs that clash -/
def clP (rk : List Int) (es : List Ent) : List (Nat × Nat) := (pQ es.length).filter (fullB rk es)
def hitB (L : List (Nat × Nat)) (row : List Int) : Bool := L.all fun p => decide ((p.1 : Int) ∈ row) || decide ((p.2 : Int) ∈ row)
def fewB (n : Nat) (es : List Ent) (row : List Int) : Bool := (ords n).any fun rk => hitB (clP rk es) row
def fewF (n : Nat) (es : List Ent) (most : Nat) : Option (List Int) := (rowsUp es.length most).find? (fewB n es)
def fewD : Option (List Int) → PyData
  | none => .none
  | some r => .tuple [.int r.length, tupI r]
/-! ### by a law -/
def rowQ (n i : Nat) : List (Nat × Nat) := (List.range (n - (i + 1))).map fun k => (i, i + 1 + k)
theorem pQ_rows (n : Nat) : pQ n = (List.range n).flatMap (rowQ n) := by
  unfold pQ
  refine flat_ext (List.range n) fun i hi => ?_
  have hi := List.mem_range.mp hi
  unfold rowQ
  have e : List.range n = List.range (i + 1) ++ (List.range (n - (i + 1))).map (i + 1 + ·) := by
    rw [← List.range_add]
    congr 1
    omega
  conv => lhs; rw [e]
  have e1 : (List.range (i + 1)).filter (fun j => decide (i < j)) = [] := List.filter_eq_nil_iff.mpr fun j hj => by
    have := List.mem_range.mp hj
    simp
    omega
  have e2 : ((List.range (n - (i + 1))).map (i + 1 + ·)).filter (fun j => decide (i < j)) = (List.range (n - (i + 1))).map (i + 1 + ·) := List.filter_eq_self.mpr fun j hj => by
    obtain ⟨k, _, rfl⟩ := List.mem_map.mp hj
    simp
    omega
  rw [List.filter_append, e1, e2, List.nil_append, List.map_map]
  rfl
theorem two_clash {rk : List Int} {a b : Ent} : fstP (fullB rk [a, b]) 2 = if clE rk a b = true then some (0, 1) else none := by
  have e : pQ 2 = [(0, 1)] := rfl
  have e2 : fullB rk [a, b] (0, 1) = clE rk a b := rfl
  unfold fstP
  rw [e]
  by_cases q : clE rk a b = true
  · rw [if_pos q, List.filter_cons_of_pos (by rw [e2]; exact q)]; rfl
  · rw [if_neg q, List.filter_cons_of_neg (by rw [e2]; exact q)]; rfl
theorem opNotN_res {o : Option (Nat × Nat)} : opNotN (resD o) .none = some (.bool o.isSome) := by cases o <;> rfl
/-! ### the law's look -/
theorem due_rows {n : Nat} {es : List Ent} {b : Nat} (hb : b ≤ 2) : (rowsUp es.length 2).find? (fun r => decide ((r.length : Int) ≤ b) && fewB n es r) = fewF n es b := by
  have lvl : ∀ k, ∀ r ∈ lv es.length k, r.length = k := fun k r hr => (lv_in k r hr).1
  have no : ∀ k, b < k → (lv es.length k).find? (fun r => decide ((r.length : Int) ≤ b) && fewB n es r) = none := fun k hk => by
    rw [List.find?_eq_none]
    intro r hr
    have := lvl k r hr
    have : decide ((r.length : Int) ≤ b) = false := by rw [this]; simp; omega
    intro z
    rw [this, Bool.false_and] at z
    cases z
  have yes : ∀ k, k ≤ b → (lv es.length k).find? (fun r => decide ((r.length : Int) ≤ b) && fewB n es r) = (lv es.length k).find? (fewB n es) := fun k hk => by
    have key : ∀ l : List (List Int), (∀ r ∈ l, r.length = k) → l.find? (fun r => decide ((r.length : Int) ≤ b) && fewB n es r) = l.find? (fewB n es) := fun l => by
      induction l with
      | nil => exact fun _ => rfl
      | cons a l ih =>
        intro h
        have ha := h a List.mem_cons_self
        have : decide ((a.length : Int) ≤ b) = true := by rw [ha]; simp; omega
        rw [List.find?_cons, List.find?_cons, this, Bool.true_and, ih fun r hr => h r (List.mem_cons_of_mem _ hr)]
    exact key _ (lvl k)
  have r2 : rowsUp es.length 2 = lv es.length 0 ++ (lv es.length 1 ++ lv es.length 2) := by simp [rowsUp, List.range_succ]
  have r1 : rowsUp es.length 1 = lv es.length 0 ++ lv es.length 1 := by simp [rowsUp, List.range_succ]
  have r0 : rowsUp es.length 0 = lv es.length 0 := by simp [rowsUp, List.range_succ]
  unfold fewF
  rw [r2, List.find?_append, List.find?_append]
  rcases (show b = 0 ∨ b = 1 ∨ b = 2 by omega) with rfl | rfl | rfl
  · rw [yes 0 (by omega), no 1 (by omega), no 2 (by omega), r0]
    simp
  · rw [yes 0 (by omega), yes 1 (by omega), no 2 (by omega), r1, List.find?_append]
    simp
  · rw [yes 0 (by omega), yes 1 (by omega), yes 2 (by omega), r2, List.find?_append, List.find?_append]
theorem lv1 {N : Nat} : lv N 1 = (upTo N).map fun x => [x] := by
  show lvStep N [[]] = _
  unfold lvStep
  rw [List.flatMap_cons, List.flatMap_nil, List.append_nil]
  have : (upTo N).filter (lvC []) = upTo N := List.filter_eq_self.mpr fun x _ => rfl
  rw [this]
  rfl
def pairRow (N a : Nat) : List (List Int) := ((upTo N).filter fun x => decide (x > (a : Int))).map fun x => [(a : Int), x]
theorem lv2 {N : Nat} : lv N 2 = (List.range N).flatMap (pairRow N) := by
  show lvStep N (lv N 1) = _
  rw [lv1]
  unfold lvStep upTo
  rw [List.map_map, List.flatMap_map]
  refine flat_ext (List.range N) fun a _ => ?_
  rfl
theorem rg_above {N a : Nat} (h : a < N) : rgD ((a : Int) + 1) (N : Int) = ((upTo N).filter fun x => decide (x > (a : Int))).map .int := by
  refine List.ext_getElem? fun k => ?_
  have e : (upTo N).filter (fun x => decide (x > (a : Int))) = (List.range (N - (a + 1))).map fun k => ((a + 1 + k : Nat) : Int) := by
    refine up_ext ((upTo_up N).filter _) ?_ fun x => ?_
    · rw [List.pairwise_map]
      exact List.pairwise_lt_range.imp fun h => by omega
    · rw [List.mem_filter, upTo_mem, List.mem_map]
      simp only [decide_eq_true_eq, List.mem_range]
      exact ⟨fun ⟨h1, h2⟩ => ⟨(x - (a + 1)).toNat, by omega, by omega⟩, fun ⟨k, h1, h2⟩ => by omega⟩
  rw [e, List.map_map, List.getElem?_map]
  by_cases hk : k < N - (a + 1)
  · rw [List.getElem?_range hk]
    have hl : k < (rgD ((a + 1 : Nat) : Int) (N : Int)).length := by rw [rg2_len]; exact hk
    have := List.getElem?_eq_getElem hl
    have g := rg2_get this
    have e2 : ((a : Int) + 1) = ((a + 1 : Nat) : Int) := by omega
    rw [e2, this, g.1]
    rfl
  · have e2 : ((a : Int) + 1) = ((a + 1 : Nat) : Int) := by omega
    rw [e2, List.getElem?_eq_none (by rw [rg2_len]; omega), List.getElem?_eq_none (by rw [List.length_range]; omega)]
    rfl
theorem opAdd_ls {a b : List PyData} (h : a.length + b.length ≤ 16777216) : opAdd (.list a) (.list b) = some (.list (a ++ b)) := by
  show (if a.length + b.length ≤ 16777216 then some (PyData.list (a ++ b)) else none) = _
  rw [if_pos h]
def missL (L : List (Nat × Nat)) (row : List Int) : List (Nat × Nat) := L.filter fun p => !decide ((p.1 : Int) ∈ row) && !decide ((p.2 : Int) ∈ row)
theorem miss_hit {L : List (Nat × Nat)} {row : List Int} : (missL L row).isEmpty = hitB L row := by
  unfold missL hitB
  rw [Bool.eq_iff_iff, List.isEmpty_iff, List.filter_eq_nil_iff, List.all_eq_true]
  refine ⟨fun h p hp => ?_, fun h p hp z => ?_⟩
  · have := h p hp
    by_cases q1 : (p.1 : Int) ∈ row <;> by_cases q2 : (p.2 : Int) ∈ row <;> simp_all
  · have := h p hp
    by_cases q1 : (p.1 : Int) ∈ row <;> by_cases q2 : (p.2 : Int) ∈ row <;> simp_all
def dueC (n b : Nat) (es : List Ent) (r : List Int) : Bool := decide ((r.length : Int) ≤ b) && fewB n es r
theorem rep_share {e a y : Bool} : Rep 0 20 (shareF e a y) := by
  have r1 : Rep 0 20 (.str "always") := ⟨⟨by decide +kernel, by decide +kernel⟩, by decide +kernel, by decide +kernel⟩
  have r2 : Rep 0 20 (.str "sometimes") := ⟨⟨by decide +kernel, by decide +kernel⟩, by decide +kernel, by decide +kernel⟩
  have r3 : Rep 0 20 (.str "never") := ⟨⟨by decide +kernel, by decide +kernel⟩, by decide +kernel, by decide +kernel⟩
  unfold shareF
  split
  · exact rep_none
  · split
    · exact r1
    · split
      · exact r2
      · exact r3
def lowB (i j : Int) (rk : List Int) : Bool := decide (pos rk i < pos rk j)
def abvF (G : List (List Int)) (i j : Int) : PyData := shareF G.isEmpty (G.all (lowB i j)) (G.any (lowB i j))
theorem OrdOk.has {n : Nat} {rk : List Int} (ho : OrdOk n rk) {i : Int} (hi : 0 ≤ i ∧ i < n) : i ∈ rk := ho.mem_iff.mpr (upTo_mem.mpr hi)
theorem opIsN_res37 {o : Option (Nat × Nat)} : opIsN (resD o) .none = some (.bool o.isNone) := by cases o <;> rfl
/-! ### what a record shows -/
abbrev Tri := Int × Int × List Int
def triD (t : Tri) : PyData := .tuple [.int t.1, .int t.2.1, tupI t.2.2]
theorem triD_inj {a b : Tri} (h : triD a = triD b) : a = b := by
  obtain ⟨x, y, m⟩ := a
  obtain ⟨x', y', m'⟩ := b
  unfold triD at h
  simp only [PyData.tuple.injEq, List.cons.injEq, PyData.int.injEq, and_true] at h
  obtain ⟨rfl, rfl, h⟩ := h
  have e : m = m' := by
    have := congrArg intsOf h
    simpa [ints_of] using this
  rw [e]
def shB (es : List Ent) (e : Ent) (x : Int) : Bool := !decide (x = e.2) && (match pickF es (lessF e.1 x) with | none => false | some q => !decide (q = e.2))
def shRow (es : List Ent) (e : Ent) : List Tri := (e.1.filter (shB es e)).map fun x => (e.2, x, e.1)
def shL (es : List Ent) : List Tri := es.flatMap (shRow es)
theorem sh_mem {es : List Ent} {t : Tri} : t ∈ shL es ↔ ∃ e ∈ es, ∃ x ∈ e.1, x ≠ e.2 ∧ (∃ q, pickF es (lessF e.1 x) = some q ∧ q ≠ e.2) ∧ t = (e.2, x, e.1) := by
  unfold shL
  rw [List.mem_flatMap]
  refine ⟨fun ⟨e, he, ht⟩ => ?_, fun ⟨e, he, x, hx, ne, ⟨q, hq, nq⟩, et⟩ => ⟨e, he, ?_⟩⟩
  · obtain ⟨x, hx, rfl⟩ := List.mem_map.mp ht
    obtain ⟨h1, h2⟩ := List.mem_filter.mp hx
    unfold shB at h2
    cases e1 : pickF es (lessF e.1 x) with
    | none => rw [e1] at h2; simp at h2
    | some q => rw [e1] at h2; simp at h2; exact ⟨e, he, x, h1, h2.1, ⟨q, e1, h2.2⟩, rfl⟩
  · refine List.mem_map.mpr ⟨x, List.mem_filter.mpr ⟨hx, ?_⟩, et.symm⟩
    unfold shB
    rw [hq]
    simp [ne, nq]
theorem row_len {n : Nat} {es : List Ent} (h : RecOk n es) {e : Ent} (he : e ∈ es) : (shRow es e).length ≤ 5 := by
  have h5 := h.n5
  unfold shRow
  rw [List.length_map]
  have := List.length_filter_le (shB es e) e.1
  have := (h.ent e he).1.len
  omega
theorem sh_len {n : Nat} {es : List Ent} (h : RecOk n es) : (shL es).length ≤ 5 * 31 := by
  have hl := h.len
  have := flat_len (f := shRow es) (k := 5) es fun e he => row_len h he
  exact Nat.le_trans this (Nat.mul_le_mul_left _ hl)
theorem lay_tri {t : Tri} : lay 2 (triD t) := lay_tup (k := 1) fun d hd => by
  simp only [List.mem_cons, List.not_mem_nil, or_false] at hd
  rcases hd with rfl | rfl | rfl
  · exact lay_int
  · exact lay_int
  · exact lay_tupI
theorem alike_tri {a b : Tri} : alike (triD a) (triD b) = true := by simp [triD, alike, alikeAll, alike_int]
theorem map_back {α β : Type} {f : α → β} {l : List α} : ∀ zs : List β, (∀ z ∈ zs, ∃ a ∈ l, f a = z) → ∃ l' : List α, zs = l'.map f ∧ ∀ a ∈ l', a ∈ l
  | [], _ => ⟨[], rfl, fun a h => by cases h⟩
  | z :: zs, h => by
    obtain ⟨a, ha, rfl⟩ := h z List.mem_cons_self
    obtain ⟨l', rfl, hl⟩ := map_back zs fun y hy => h y (List.mem_cons_of_mem _ hy)
    refine ⟨a :: l', rfl, fun b hb => ?_⟩
    rcases List.mem_cons.mp hb with rfl | hb
    · exact ha
    · exact hl b hb
theorem sorted_tri (l : List Tri) : ∃ m : List Tri, opSorted [.list (l.map triD)] = some (m.map triD) ∧ (∀ t, t ∈ m ↔ t ∈ l) ∧ m.length = l.length := by
  have ok : sortOk (l.map triD) = true := sortOk_of (k := 2) (fun d hd => by obtain ⟨i, _, rfl⟩ := List.mem_map.mp hd; exact lay_tri) (by decide)
    (fun a ha b hb => by obtain ⟨i, _, rfl⟩ := List.mem_map.mp ha; obtain ⟨j, _, rfl⟩ := List.mem_map.mp hb; exact alike_tri)
    (by
      unfold sortKinds
      have : (l.map triD).all isTup1 = true := by simp [List.all_map, isTup1, triD]
      rw [this]; simp)
  have p : (srt (l.map triD)).Perm (l.map triD) := List.mergeSort_perm _ _
  obtain ⟨m, em, hm⟩ := map_back (f := triD) (l := l) (srt (l.map triD)) fun z hz => by
    obtain ⟨a, ha, e⟩ := List.mem_map.mp (p.mem_iff.mp hz)
    exact ⟨a, ha, e⟩
  refine ⟨m, by unfold opSorted; simp [itemsOf, ok, em], fun t => ⟨hm t, fun ht => ?_⟩, ?_⟩
  · have : triD t ∈ srt (l.map triD) := p.mem_iff.mpr (List.mem_map.mpr ⟨t, ht, rfl⟩)
    rw [em] at this
    obtain ⟨u, hu, e⟩ := List.mem_map.mp this
    rw [← triD_inj e]; exact hu
  · have := p.length_eq
    rw [em, List.length_map, List.length_map] at this
    exact this
/-- the triples, in order -/
noncomputable def shT (es : List Ent) : List Tri := (sorted_tri (shL es)).choose
theorem shT_mem {es : List Ent} {t : Tri} : t ∈ shT es ↔ t ∈ shL es := (sorted_tri (shL es)).choose_spec.2.1 t
theorem shT_len {es : List Ent} : (shT es).length = (shL es).length := (sorted_tri (shL es)).choose_spec.2.2
theorem shT_srt {es : List Ent} : opSorted [.list ((shL es).map triD)] = some ((shT es).map triD) := (sorted_tri (shL es)).choose_spec.1
/-! ### chains -/
def grow (T : List Tri) (f : List Int) : List Int := f ++ (T.filter fun t => decide (t.1 ∈ f) && !decide (t.2.1 ∈ f)).map (·.2.1)
def reachF (T : List Tri) : Nat → List Int → List Int
  | 0, f => f
  | k + 1, f => grow T (reachF T k f)
theorem grow_len {T : List Tri} {f : List Int} : (grow T f).length ≤ f.length + T.length := by
  unfold grow
  rw [List.length_append, List.length_map]
  have := List.length_filter_le (fun t : Tri => decide (t.1 ∈ f) && !decide (t.2.1 ∈ f)) T
  omega
theorem reach_len {T : List Tri} {f : List Int} : ∀ k, (reachF T k f).length ≤ f.length + k * T.length
  | 0 => by simp [reachF]
  | k + 1 => by
    have := grow_len (T := T) (f := reachF T k f)
    have := reach_len (T := T) (f := f) k
    show (grow T (reachF T k f)).length ≤ _
    rw [Nat.add_mul]
    omega
def onTri (q : Tri → Bool) : PyData → Bool
  | .tuple [.int x, .int y, .tuple l] => q (x, y, (intsOf l).getD [])
  | _ => false
theorem onTri_tri {q : Tri → Bool} {t : Tri} : onTri q (triD t) = q t := by simp [onTri, triD, ints_of]
def yOf : PyData → PyData
  | .tuple [_, y, _] => y
  | d => d
/-! what chains lead to -/
def card (n : Nat) (f : List Int) : Nat := (upTo n).countP fun x => decide (x ∈ f)
def Shut (T : List Tri) (f : List Int) : Prop := ∀ t ∈ T, t.1 ∈ f → t.2.1 ∈ f
theorem grow_shut {T : List Tri} {f : List Int} (h : Shut T f) : grow T f = f := by
  unfold grow
  have : (T.filter fun t => decide (t.1 ∈ f) && !decide (t.2.1 ∈ f)) = [] := by
    rw [List.filter_eq_nil_iff]
    intro t ht
    by_cases q : t.1 ∈ f
    · simp [q, h t ht q]
    · simp [q]
  rw [this]
  simp
theorem countP_grow {α : Type} {p q : α → Bool} : ∀ {l : List α}, (∀ a ∈ l, p a = true → q a = true) → (∃ a ∈ l, p a = false ∧ q a = true) → l.countP p + 1 ≤ l.countP q
  | [], _, ⟨a, h, _⟩ => by cases h
  | c :: l, h, ⟨a, ha, pa, qa⟩ => by
    rw [List.countP_cons, List.countP_cons]
    have le : l.countP p ≤ l.countP q := List.countP_mono_left fun x hx => h x (List.mem_cons_of_mem _ hx)
    rcases List.mem_cons.mp ha with rfl | ha
    · rw [pa, qa]; simp; exact le
    · have := countP_grow (fun x hx => h x (List.mem_cons_of_mem _ hx)) ⟨a, ha, pa, qa⟩
      have hc := h c List.mem_cons_self
      cases e : p c
      · simp; omega
      · rw [hc e]; simp; omega
theorem card_grow {n : Nat} {T : List Tri} {f : List Int} {t : Tri} (ht : t ∈ T) (hr : 0 ≤ t.2.1 ∧ t.2.1 < (n : Int)) (h1 : t.1 ∈ f) (h2 : t.2.1 ∉ f) : card n f + 1 ≤ card n (grow T f) := by
  refine countP_grow (fun a _ h => ?_) ⟨t.2.1, upTo_mem.mpr hr, decide_eq_false h2, decide_eq_true ?_⟩
  · exact decide_eq_true (List.mem_append_left _ (of_decide_eq_true h))
  · exact List.mem_append_right _ (List.mem_map.mpr ⟨t, List.mem_filter.mpr ⟨ht, by simp [h1, h2]⟩, rfl⟩)
theorem reach_step {n : Nat} {T : List Tri} {x : Int} (hr : ∀ t ∈ T, 0 ≤ t.2.1 ∧ t.2.1 < (n : Int)) (hx : 0 ≤ x ∧ x < (n : Int)) : ∀ k, Shut T (reachF T k [x]) ∨ k + 1 ≤ card n (reachF T k [x])
  | 0 => .inr (by
    have := List.countP_pos_iff (p := fun y => decide (y ∈ [x])) (l := upTo n) |>.mpr ⟨x, upTo_mem.mpr hx, by simp⟩
    exact this)
  | k + 1 => by
    rcases reach_step hr hx k with h | h
    · have e : reachF T (k + 1) [x] = reachF T k [x] := grow_shut h
      rw [e]
      exact .inl h
    · by_cases q : Shut T (reachF T k [x])
      · have e : reachF T (k + 1) [x] = reachF T k [x] := grow_shut q
        rw [e]
        exact .inl q
      · unfold Shut at q
        have : ∃ t, t ∈ T ∧ t.1 ∈ reachF T k [x] ∧ t.2.1 ∉ reachF T k [x] := by
          refine Classical.byContradiction fun z => q fun t ht h1 => Classical.byContradiction fun h2 => z ⟨t, ht, h1, h2⟩
        obtain ⟨t, ht, h1, h2⟩ := this
        have := card_grow (n := n) ht (hr t ht) h1 h2
        exact .inr (by show k + 1 + 1 ≤ card n (grow T (reachF T k [x])); omega)
theorem reach_shut {n : Nat} {T : List Tri} {x : Int} (n5 : n ≤ 5) (hr : ∀ t ∈ T, 0 ≤ t.2.1 ∧ t.2.1 < (n : Int)) (hx : 0 ≤ x ∧ x < (n : Int)) : Shut T (reachF T 5 [x]) := by
  rcases reach_step hr hx 5 with h | h
  · exact h
  · have : card n (reachF T 5 [x]) ≤ (upTo n).length := List.countP_le_length
    rw [upTo_len] at this
    omega
theorem reach_self {T : List Tri} {x : Int} : ∀ k, x ∈ reachF T k [x]
  | 0 => List.mem_singleton.mpr rfl
  | k + 1 => List.mem_append_left _ (reach_self k)
theorem reach_ind {T : List Tri} {x : Int} {P : Int → Prop} (h0 : P x) (hs : ∀ t ∈ T, P t.1 → P t.2.1) : ∀ k, ∀ y ∈ reachF T k [x], P y
  | 0, y, h => by rw [List.mem_singleton.mp h]; exact h0
  | k + 1, y, h => by
    rcases List.mem_append.mp h with h | h
    · exact reach_ind h0 hs k y h
    · obtain ⟨t, ht, rfl⟩ := List.mem_map.mp h
      obtain ⟨h1, h2⟩ := List.mem_filter.mp ht
      simp at h2
      exact hs t h1 (reach_ind h0 hs k _ h2.1)
/-! one before the other -/
theorem sub_of_lt {a b : Int} : ∀ {l : List Int}, a ∈ l → b ∈ l → l.idxOf a < l.idxOf b → [a, b].Sublist l
  | [], h, _, _ => by cases h
  | c :: l, ha, hb, h => by
    rw [List.idxOf_cons, List.idxOf_cons] at h
    by_cases q : c = a
    · subst q
      by_cases r : c = b
      · subst r; simp at h
      · rcases List.mem_cons.mp hb with z | z
        · exact absurd z.symm r
        · exact (List.singleton_sublist.mpr z).cons₂ c
    · by_cases r : c = b
      · subst r; simp at h
      · have q' : (c == a) = false := by simpa using q
        have r' : (c == b) = false := by simpa using r
        rw [q', r'] at h
        simp at h
        refine (sub_of_lt ?_ ?_ h).cons c
        · rcases List.mem_cons.mp ha with z | z
          · exact absurd z.symm q
          · exact z
        · rcases List.mem_cons.mp hb with z | z
          · exact absurd z.symm r
          · exact z
theorem lt_of_sub {a b : Int} : ∀ {l : List Int}, l.Nodup → [a, b].Sublist l → l.idxOf a < l.idxOf b
  | [], _, h => by cases h
  | c :: l, nd, h => by
    obtain ⟨n1, n2⟩ := List.nodup_cons.mp nd
    rw [List.idxOf_cons, List.idxOf_cons]
    cases h with
    | cons _ h =>
      have ha : a ∈ l := h.subset (by simp)
      have hb : b ∈ l := h.subset (by simp)
      have q : (c == a) = false := by simpa using fun z : c = a => n1 (z ▸ ha)
      have r : (c == b) = false := by simpa using fun z : c = b => n1 (z ▸ hb)
      rw [q, r]
      simp
      exact lt_of_sub n2 h
    | cons_cons _ h =>
      have hb : b ∈ l := h.subset (by simp)
      have r : (a == b) = false := by simpa using fun z : a = b => n1 (z ▸ hb)
      rw [r]
      simp
theorem pos_sub {n : Nat} {rk : List Int} (ho : OrdOk n rk) {a b : Int} (ha : 0 ≤ a ∧ a < (n : Int)) (hb : 0 ≤ b ∧ b < (n : Int)) : pos rk a < pos rk b ↔ [a, b].Sublist rk := by
  unfold pos
  rw [Int.ofNat_lt]
  exact ⟨sub_of_lt (ho.has ha) (ho.has hb), lt_of_sub ho.nodup⟩
/-- all that is led to, put last -/
def lastF (R : List Int) (rk : List Int) : List Int := rk.filter (fun y => !decide (y ∈ R)) ++ rk.filter fun y => decide (y ∈ R)
theorem last_ok {n : Nat} {R rk : List Int} (ho : OrdOk n rk) : OrdOk n (lastF R rk) := by
  refine List.Perm.trans ?_ ho
  unfold lastF
  have := List.filter_append_perm (fun y => !decide (y ∈ R)) rk
  simpa using this
theorem last_sub {R rk : List Int} {a b : Int} (h : [a, b].Sublist rk) (hs : a ∈ R → b ∈ R) : [a, b].Sublist (lastF R rk) := by
  unfold lastF
  have ha : a ∈ rk := h.subset (by simp)
  have hb : b ∈ rk := h.subset (by simp)
  by_cases q : a ∈ R
  · have r := hs q
    have := h.filter fun y => decide (y ∈ R)
    simp [q, r] at this
    exact this.trans (List.sublist_append_right _ _)
  · by_cases r : b ∈ R
    · exact List.Sublist.append (l₁ := [a]) (r₁ := [b]) (List.singleton_sublist.mpr (List.mem_filter.mpr ⟨ha, by simp [q]⟩)) (List.singleton_sublist.mpr (List.mem_filter.mpr ⟨hb, by simp [r]⟩))
    · have := h.filter fun y => !decide (y ∈ R)
      simp [q, r] at this
      exact this.trans (List.sublist_append_left _ _)
theorem last_apart {R rk : List Int} {a b : Int} (ha : a ∈ rk) (hb : b ∈ rk) (q : a ∉ R) (r : b ∈ R) : [a, b].Sublist (lastF R rk) :=
  List.Sublist.append (l₁ := [a]) (r₁ := [b]) (List.singleton_sublist.mpr (List.mem_filter.mpr ⟨ha, by simp [q]⟩)) (List.singleton_sublist.mpr (List.mem_filter.mpr ⟨hb, by simp [r]⟩))
/-! ### complete records -/
theorem pw_all {α : Type} {R : α → α → Prop} (sy : ∀ a b, R a b → R b a) : ∀ {l : List α}, l.Pairwise R → ∀ a ∈ l, ∀ b ∈ l, a ≠ b → R a b
  | [], _, a, h, _, _, _ => by cases h
  | c :: l, pw, a, ha, b, hb, ne => by
    obtain ⟨h1, h2⟩ := List.pairwise_cons.mp pw
    rcases List.mem_cons.mp ha with q | q
    · rcases List.mem_cons.mp hb with r | r
      · exact absurd (q.trans r.symm) ne
      · rw [q]; exact h1 b r
    · rcases List.mem_cons.mp hb with r | r
      · rw [r]; exact sy _ _ (h1 a q)
      · exact pw_all sy h2 a q b r ne
theorem clE_sym {rk : List Int} {a b : Ent} : clE rk a b = clE rk b a := by
  unfold clE meetB
  have : (a.2 == b.2) = (b.2 == a.2) := by rw [Bool.eq_iff_iff, beq_iff_eq, beq_iff_eq]; exact eq_comm
  rw [this]
  cases (b.2 == a.2) <;> cases decide (a.2 ∈ b.1) <;> cases decide (b.2 ∈ a.1) <;> cases noLow rk a.2 (onlyIn a.1 b.1) <;> cases noLow rk b.2 (onlyIn b.1 a.1) <;> rfl
theorem only_mem {M N : List Int} {x : Int} : x ∈ onlyIn M N ↔ x ∈ M ∧ x ∉ N := by simp [onlyIn]
theorem noLow_iff {rk l : List Int} {p : Int} : noLow rk p l = true ↔ ∀ x ∈ l, ¬ pos rk p < pos rk x := by
  unfold noLow
  rw [List.all_eq_true]
  exact ⟨fun h x hx => by have := h x hx; simpa using this, fun h x hx => by have := h x hx; simpa using this⟩
theorem meet_iff {a b : Ent} : meetB a b = true ↔ a.2 ≠ b.2 ∧ a.2 ∈ b.1 ∧ b.2 ∈ a.1 := by simp [meetB]
structure Full (n : Nat) (es : List Ent) : Prop where
  ok : RecOk n es
  all : es.map (·.1) = menus n
theorem Full.pick {n : Nat} {es : List Ent} (f : Full n es) {m : List Int} (hm : m ∈ menus n) : ∃ p, pickF es m = some p ∧ (m, p) ∈ es ∧ p ∈ m := by
  rw [← f.all] at hm
  obtain ⟨p, h1, h2⟩ := pickF_known hm
  have := List.mem_of_getElem? h1
  exact ⟨p, h2, this, (f.ok.ent _ this).2⟩
theorem Full.of {n : Nat} {es : List Ent} (f : Full n es) {e : Ent} (he : e ∈ es) : e.1 ∈ menus n ∧ e.2 ∈ e.1 ∧ pickF es e.1 = some e.2 := by
  have hm : e.1 ∈ menus n := by rw [← f.all]; exact List.mem_map.mpr ⟨e, he, rfl⟩
  obtain ⟨p, h1, h2, h3⟩ := f.pick hm
  refine ⟨hm, (f.ok.ent e he).2, ?_⟩
  have nd := f.ok.nodup
  have : p = e.2 := by
    refine Classical.byContradiction fun z => ?_
    have ne : (e.1, p) ≠ e := fun q => z (congrArg Prod.snd q)
    have pw : es.Pairwise fun a b => a.1 ≠ b.1 := List.pairwise_map.mp nd
    exact pw_all (fun a b h => Ne.symm h) pw _ h2 _ he ne rfl
  rw [h1, this]
theorem menus_less {n : Nat} {m : List Int} {p y : Int} (hm : m ∈ menus n) (hp : p ∈ m) (ne : p ≠ y) : lessF m y ∈ menus n := by
  obtain ⟨h1, h2, h3⟩ := menus_mem.mp hm
  refine menus_mem.mpr ⟨fun z => ?_, h2.sublist List.filter_sublist, fun x hx => h3 x (less_mem.mp hx).1⟩
  have : p ∈ lessF m y := less_mem.mpr ⟨hp, ne⟩
  rw [z] at this; cases this
theorem less_not {m : List Int} {y : Int} (h : y ∉ m) : lessF m y = m := List.filter_eq_self.mpr fun x hx => by simpa using fun z : x = y => h (z ▸ hx)
theorem strip {n : Nat} {es : List Ent} (f : Full n es) {rk : List Int} (hs : ∀ t ∈ shL es, pos rk t.1 < pos rk t.2.1) : ∀ (L M : List Int) (p : Int), M ∈ menus n → pickF es M = some p → p ∉ L → (∀ y ∈ L, ¬ pos rk p < pos rk y) → pickF es (M.filter fun x => !decide (x ∈ L)) = some p
  | [], M, p, _, hp, _, _ => by
    have : (M.filter fun x => !decide (x ∈ ([] : List Int))) = M := List.filter_eq_self.mpr fun x _ => by simp
    rw [this]; exact hp
  | y :: L, M, p, hM, hp, np, hl => by
    have hin := pickF_in hp
    have hpM := (f.of hin).2.1
    have ne : p ≠ y := fun z => np (z ▸ List.mem_cons_self)
    have e : (M.filter fun x => !decide (x ∈ y :: L)) = (lessF M y).filter fun x => !decide (x ∈ L) := by
      unfold lessF
      rw [List.filter_filter]
      refine List.filter_congr fun x _ => ?_
      by_cases q : x = y <;> by_cases r : x ∈ L <;> simp [q, r]
    rw [e]
    have hM2 := menus_less hM hpM ne
    refine strip f hs L _ p hM2 ?_ (fun z => np (List.mem_cons_of_mem _ z)) fun z hz => hl z (List.mem_cons_of_mem _ hz)
    by_cases q : y ∈ M
    · obtain ⟨r, h1, _, _⟩ := f.pick hM2
      by_cases z : r = p
      · rw [h1, z]
      · have := hs (p, y, M) (sh_mem.mpr ⟨_, hin, y, q, fun w => ne w.symm, ⟨r, h1, z⟩, rfl⟩)
        exact absurd this (hl y List.mem_cons_self)
    · rw [less_not q]; exact hp
theorem full_expl {n : Nat} {es : List Ent} (f : Full n es) {rk : List Int} : explB es rk = true ↔ ∀ t ∈ shL es, pos rk t.1 < pos rk t.2.1 := by
  rw [expl_iff]
  refine ⟨fun pw t ht => ?_, fun hs => ?_⟩
  · obtain ⟨e, he, x, hx, ne, ⟨q, hq, nq⟩, rfl⟩ := sh_mem.mp ht
    have hf := pickF_in hq
    obtain ⟨_, hq2, _⟩ := f.of hf
    obtain ⟨_, he2, _⟩ := f.of he
    have c := pw_all (R := fun a b => clE rk a b = false) (fun a b h => by rw [clE_sym]; exact h) pw _ he _ hf (fun z => nq (congrArg Prod.snd z).symm)
    have m : meetB e (lessF e.1 x, q) = true := meet_iff.mpr ⟨Ne.symm nq, less_mem.mpr ⟨he2, Ne.symm ne⟩, (less_mem.mp hq2).1⟩
    have l2 : noLow rk q (onlyIn (lessF e.1 x) e.1) = true := noLow_iff.mpr fun z hz => by
      obtain ⟨h1, h2⟩ := only_mem.mp hz
      exact absurd (less_mem.mp h1).1 h2
    unfold clE at c
    rw [m, l2, Bool.and_true, Bool.true_and] at c
    refine Classical.byContradiction fun z => ?_
    have : noLow rk e.2 (onlyIn e.1 (lessF e.1 x)) = true := noLow_iff.mpr fun y hy => by
      obtain ⟨h1, h2⟩ := only_mem.mp hy
      have : y = x := Classical.byContradiction fun w => h2 (less_mem.mpr ⟨h1, w⟩)
      rw [this]; exact z
    rw [this] at c; cases c
  · refine f.ok.up.imp_of_mem fun {a b} ha hb _ => ?_
    cases c : clE rk a b with
    | false => rfl
    | true =>
      exfalso
      unfold clE at c
      rw [Bool.and_eq_true, Bool.and_eq_true] at c
      obtain ⟨c1, c2, c3⟩ := c
      obtain ⟨ne, pb, qa⟩ := meet_iff.mp c1
      obtain ⟨am, ap, apk⟩ := f.of ha
      obtain ⟨bm, bp, bpk⟩ := f.of hb
      have s1 := strip f hs (onlyIn a.1 b.1) a.1 a.2 am apk (fun z => (only_mem.mp z).2 pb) (noLow_iff.mp c2)
      have s2 := strip f hs (onlyIn b.1 a.1) b.1 b.2 bm bpk (fun z => (only_mem.mp z).2 qa) (noLow_iff.mp c3)
      have e : (a.1.filter fun x => !decide (x ∈ onlyIn a.1 b.1)) = b.1.filter fun x => !decide (x ∈ onlyIn b.1 a.1) := up_ext ((menus_mem.mp am).2.1.sublist List.filter_sublist) ((menus_mem.mp bm).2.1.sublist List.filter_sublist) fun x => by
        simp only [List.mem_filter, only_mem, Bool.not_eq_true', decide_eq_false_iff_not]
        by_cases h1 : x ∈ a.1 <;> by_cases h2 : x ∈ b.1 <;> simp [h1, h2]
      rw [e, s2] at s1
      exact ne (Option.some.inj s1).symm
/-- always above, by chains -/
theorem above_chain {n : Nat} {es : List Ent} (f : Full n es) {x y : Int} (hx : 0 ≤ x ∧ x < (n : Int)) (hy : 0 ≤ y ∧ y < (n : Int)) (ne : x ≠ y) (some_ : expls n es ≠ []) : (expls n es).all (lowB x y) = decide (y ∈ reachF (shT es) 5 [x]) := by
  have n5 : n ≤ 5 := by have := f.ok.n5; omega
  have rg : ∀ t ∈ shT es, (0 ≤ t.1 ∧ t.1 < (n : Int)) ∧ 0 ≤ t.2.1 ∧ t.2.1 < (n : Int) := fun t ht => by
    obtain ⟨e, he, x, hx, _, _, rfl⟩ := sh_mem.mp (shT_mem.mp ht)
    obtain ⟨hm, hp, _⟩ := f.of he
    exact ⟨(menus_mem.mp hm).2.2 _ hp, (menus_mem.mp hm).2.2 _ hx⟩
  have inE : ∀ rk, rk ∈ expls n es ↔ OrdOk n rk ∧ ∀ t ∈ shT es, pos rk t.1 < pos rk t.2.1 := fun rk => by
    unfold expls
    rw [List.mem_filter, full_expl f]
    exact ⟨fun h => ⟨ords_ok h.1, fun t ht => h.2 t (shT_mem.mp ht)⟩, fun h => ⟨ords_all h.1, fun t ht => h.2 t (shT_mem.mpr ht)⟩⟩
  rw [Bool.eq_iff_iff, List.all_eq_true, decide_eq_true_eq]
  refine ⟨fun h => Classical.byContradiction fun hn => ?_, fun h rk hrk => ?_⟩
  · obtain ⟨rk, hrk⟩ := List.exists_mem_of_ne_nil _ some_
    obtain ⟨ho, hs⟩ := (inE rk).mp hrk
    have shut := reach_shut n5 (fun t ht => (rg t ht).2) hx
    have lo := last_ok (R := reachF (shT es) 5 [x]) ho
    have : lastF (reachF (shT es) 5 [x]) rk ∈ expls n es := (inE _).mpr ⟨lo, fun t ht => by
      rw [pos_sub lo (rg t ht).1 (rg t ht).2]
      exact last_sub ((pos_sub ho (rg t ht).1 (rg t ht).2).mp (hs t ht)) (shut t ht)⟩
    have h1 := h _ this
    unfold lowB at h1
    rw [decide_eq_true_eq] at h1
    have h2 := (pos_sub lo hy hx).mpr (last_apart (ho.has hy) (ho.has hx) hn (reach_self 5))
    omega
  · obtain ⟨ho, hs⟩ := (inE rk).mp hrk
    have := reach_ind (P := fun z => z = x ∨ pos rk x < pos rk z) (.inl rfl) (fun t ht p => .inr (by
      rcases p with p | p
      · rw [← p]; exact hs t ht
      · exact Int.lt_trans p (hs t ht))) 5 y h
    rcases this with z | z
    · exact absurd z.symm ne
    · unfold lowB; rw [decide_eq_true_eq]; exact z
/-! ### left out, and without -/
theorem hit_wo {rk : List Int} {es : List Ent} {P : List Int} : hitB (clP rk es) P = explB (woF es P) rk := by
  rw [Bool.eq_iff_iff, expl_iff]
  unfold hitB clP woF
  rw [List.all_eq_true, List.pairwise_map, List.pairwise_filter, List.pairwise_iff_getElem]
  refine ⟨fun h i j hi hj hij => ?_, fun h p hp => ?_⟩
  · rw [List.getElem_range, List.getElem_range]
    intro pi pj
    rw [List.length_range] at hj
    cases c : clE rk (ev es i) (ev es j) with
    | false => rfl
    | true =>
      have := h (i, j) (List.mem_filter.mpr ⟨pQ_mem.mpr ⟨hij, hj⟩, by rw [fullB_eq]; exact c⟩)
      simp at this pi pj
      rcases this with z | z
      · exact absurd z pi
      · exact absurd z pj
  · obtain ⟨h1, h2⟩ := List.mem_filter.mp hp
    obtain ⟨i, j⟩ := p
    obtain ⟨hij, hj⟩ := pQ_mem.mp h1
    rw [fullB_eq] at h2
    have := h i j (by rw [List.length_range]; omega) (by rw [List.length_range]; exact hj) hij
    rw [List.getElem_range, List.getElem_range] at this
    by_cases pi : (i : Int) ∈ P
    · simp [pi]
    · by_cases pj : (j : Int) ∈ P
      · simp [pj]
      · rw [this (by simpa using pi) (by simpa using pj)] at h2; cases h2
/-- without these something explains it -/
def okWo (n : Nat) (es : List Ent) (P : List Int) : Bool := (firstF n (woF es P)).isSome
theorem fewB_wo {n : Nat} {es : List Ent} {P : List Int} : fewB n es P = okWo n es P := by
  unfold fewB okWo firstF
  rw [Bool.eq_iff_iff, List.any_eq_true, List.find?_isSome]
  exact ⟨fun ⟨rk, h1, h2⟩ => ⟨rk, h1, by rw [hit_wo] at h2; exact h2⟩, fun ⟨rk, h1, h2⟩ => ⟨rk, h1, by rw [hit_wo]; exact h2⟩⟩
theorem fewF_wo {n : Nat} {es : List Ent} : fewF n es 2 = (rowsUp es.length 2).find? (okWo n es) := by
  unfold fewF
  congr 1
  funext P
  exact fewB_wo
def prs (N : Nat) : List (List Int) := (upTo N).flatMap fun x => ((upTo N).filter fun y => decide (y > x)).map fun y => [x, y]
theorem lv_one {N : Nat} : lv N 1 = (upTo N).map fun x => [x] := by
  show lvStep N [[]] = _
  unfold lvStep
  have : (upTo N).filter (lvC []) = upTo N := List.filter_eq_self.mpr fun _ _ => rfl
  simp [this]
theorem lv_two {N : Nat} : lv N 2 = prs N := by
  show lvStep N (lv N 1) = _
  rw [lv_one]
  unfold lvStep prs
  rw [List.flatMap_map]
  refine flat_ext _ fun x _ => ?_
  have : lvC [x] = fun y => decide (y > x) := by funext y; simp [lvC]
  rw [this]
  rfl
theorem rows_two {N : Nat} : rowsUp N 2 = [] :: (((upTo N).map fun x => [x]) ++ prs N) := by
  have : rowsUp N 2 = lv N 0 ++ (lv N 1 ++ (lv N 2 ++ [])) := by simp [rowsUp, List.range_succ]
  rw [this, lv_one, lv_two, List.append_nil]
  rfl
theorem prs_mem {N : Nat} {P : List Int} : P ∈ prs N ↔ ∃ c d : Int, P = [c, d] ∧ 0 ≤ c ∧ c < d ∧ d < (N : Int) := by
  unfold prs
  rw [List.mem_flatMap]
  refine ⟨fun ⟨x, hx, h⟩ => ?_, fun ⟨c, d, e, h0, h1, h2⟩ => ⟨c, upTo_mem.mpr ⟨h0, by omega⟩, ?_⟩⟩
  · obtain ⟨y, hy, rfl⟩ := List.mem_map.mp h
    obtain ⟨h1, h2⟩ := List.mem_filter.mp hy
    have := upTo_mem.mp hx
    have := upTo_mem.mp h1
    simp at h2
    exact ⟨x, y, rfl, by omega, h2, by omega⟩
  · exact List.mem_map.mpr ⟨d, List.mem_filter.mpr ⟨upTo_mem.mpr ⟨by omega, h2⟩, by simpa using h1⟩, e.symm⟩
def before (p q : List Int) : Prop := p.headD 0 < q.headD 0 ∨ (p.headD 0 = q.headD 0 ∧ p.getLastD 0 < q.getLastD 0)
theorem prs_up {N : Nat} : (prs N).Pairwise before := by
  unfold prs
  rw [List.pairwise_flatMap]
  refine ⟨fun x _ => ?_, (upTo_up N).imp fun {x y} h p hp q hq => ?_⟩
  · rw [List.pairwise_map]
    exact ((upTo_up N).sublist List.filter_sublist).imp fun {y z} h => .inr ⟨rfl, h⟩
  · obtain ⟨c, _, rfl⟩ := List.mem_map.mp hp
    obtain ⟨d, _, rfl⟩ := List.mem_map.mp hq
    exact .inl h
theorem few_nil {N : Nat} {w : List Int → Bool} (h : w [] = true) : (rowsUp N 2).find? w = some [] := by rw [rows_two, List.find?_cons, h]
theorem few_one {N : Nat} {w : List Int → Bool} (h : w [] = false) {k : Int} {r : List Int} (e : (upTo N).filter (fun k => w [k]) = k :: r) : (rowsUp N 2).find? w = some [k] := by
  rw [rows_two, List.find?_cons, h]
  dsimp only
  rw [List.find?_append, List.find?_map]
  have : (upTo N).find? (w ∘ fun x => [x]) = some k := by
    rw [← List.head?_filter]
    have e' : (upTo N).filter (w ∘ fun x => [x]) = k :: r := e
    rw [e']; rfl
  rw [this]; rfl
theorem few_two {N : Nat} {w : List Int → Bool} (h : w [] = false) (e : (upTo N).filter (fun k => w [k]) = []) : (rowsUp N 2).find? w = (prs N).find? w := by
  rw [rows_two, List.find?_cons, h]
  dsimp only
  rw [List.find?_append, List.find?_map]
  have : (upTo N).find? (w ∘ fun x => [x]) = none := by
    rw [← List.head?_filter]
    have e' : (upTo N).filter (w ∘ fun x => [x]) = [] := e
    rw [e']; rfl
  rw [this]; rfl
theorem few_first {N : Nat} {w : List Int → Bool} {a b : Int} (h : (prs N).find? w = some [a, b]) {c d : Int} (h0 : 0 ≤ c) (h1 : c < d) (h2 : d < (N : Int)) (lt : c < a ∨ (c = a ∧ d < b)) : w [c, d] = false := by
  obtain ⟨_, as, bs, e, no⟩ := List.find?_eq_some_iff_append.mp h
  have up := prs_up (N := N)
  have hm : [c, d] ∈ prs N := prs_mem.mpr ⟨c, d, rfl, h0, h1, h2⟩
  rw [e] at up hm
  rcases List.mem_append.mp hm with z | z
  · have := no _ z
    simpa using this
  · exfalso
    rcases List.mem_cons.mp z with z | z
    · cases z; omega
    · have := (List.pairwise_cons.mp (List.pairwise_append.mp up).2.1).1 _ z
      unfold before at this
      simp at this
      omega
theorem wo_swap {es : List Ent} {a b : Int} : woF es [a, b] = woF es [b, a] := by
  unfold woF
  congr 1
  refine List.filter_congr fun k _ => ?_
  simp
  exact Bool.and_comm _ _
theorem wo_same {es : List Ent} {a : Int} : woF es [a, a] = woF es [a] := by
  unfold woF
  congr 1
  refine List.filter_congr fun k _ => ?_
  simp
/-! ### all steady tables, as the menus grow -/
def szD (m : List Int) : PyData := .tuple [.int (m.length : Nat), tupI m]
def bsF : Nat → List (List Int)
  | 1 => [[0]]
  | 2 => [[0], [1], [0, 1]]
  | 3 => [[0], [1], [2], [0, 1], [0, 2], [1, 2], [0, 1, 2]]
  | _ => []
def ltSz (a b : List Int) : Bool := if a.length = b.length then HT.lexLt a b else decide (a.length < b.length)
theorem lt_sz {a b : List Int} (h : ltSz a b = true) : dataLt (szD a) (szD b) = true := by
  show dataLt (.tuple [.int (a.length : Nat), tupI a]) (.tuple [.int (b.length : Nat), tupI b]) = true
  unfold ltSz at h
  rw [dataLt_tuple, dataLt_cons (by simp [alike, alikeAll, alike_int])]
  by_cases e : a.length = b.length
  · have e1 : PyData.eqv (.int (a.length : Nat)) (.int (b.length : Nat)) = true := by rw [e, eqv_int]; simp
    rw [if_pos e] at h
    rw [e1, if_pos rfl, dataLt_cons (by simp [alike, alikeAll, alike_int])]
    have ne : PyData.eqv (tupI a) (tupI b) = false := by rw [eqv_tupI]; exact decide_eq_false (lex_ne h)
    rw [ne, if_neg Bool.false_ne_true, lt_tupI, lexLt_lt]
    exact h
  · have e1 : PyData.eqv (.int (a.length : Nat)) (.int (b.length : Nat)) = false := by rw [eqv_int]; exact beq_eq_false_iff_ne.mpr fun z => e (by omega)
    rw [if_neg e] at h
    rw [e1, if_neg Bool.false_ne_true, dataLt_int]
    simpa using h
theorem lay_sz {m : List Int} : lay 2 (szD m) := lay_tup (k := 1) fun d hd => by
  simp only [List.mem_cons, List.not_mem_nil, or_false] at hd
  rcases hd with rfl | rfl
  · exact lay_int
  · exact lay_tupI
theorem eqv_sz (a b : List Int) : PyData.eqv (szD a) (szD b) = decide (a = b) := by
  show (PyData.eqv (.int (a.length : Nat)) (.int (b.length : Nat)) && (PyData.eqv (tupI a) (tupI b) && true)) = _
  rw [eqv_tupI, eqv_int, Bool.and_true, Bool.eq_iff_iff]
  simp
  rintro rfl
  rfl
theorem bs_perm {n : Nat} (h : n = 1 ∨ n = 2 ∨ n = 3) : (menus n).Perm (bsF n) ∧ (bsF n).Pairwise fun a b => ltSz a b = true := by
  rcases h with rfl | rfl | rfl <;> exact ⟨by decide +kernel, by decide +kernel⟩
theorem sorted_sz {n : Nat} (h : n = 1 ∨ n = 2 ∨ n = 3) : opSorted [.list ((menus n).map szD)] = some ((bsF n).map szD) := by
  obtain ⟨p, s⟩ := bs_perm h
  have ok : sortOk ((menus n).map szD) = true := sortOk_of (k := 2) (fun d hd => by obtain ⟨i, _, rfl⟩ := List.mem_map.mp hd; exact lay_sz) (by decide)
    (fun a ha b hb => by obtain ⟨i, _, rfl⟩ := List.mem_map.mp ha; obtain ⟨j, _, rfl⟩ := List.mem_map.mp hb; simp [szD, alike, alikeAll, alike_int])
    (by
      unfold sortKinds
      have : ((menus n).map szD).all isTup1 = true := by simp [List.all_map, isTup1, szD]
      rw [this]; simp)
  have e : srt ((menus n).map szD) = (bsF n).map szD := srt_perm (p.map _) (by rw [List.pairwise_map]; exact s.imp fun h => lt_sz h)
  unfold opSorted; simp [itemsOf, ok, e]
theorem ixOf_sz {m : List Int} : ∀ (l : List (List Int)) (k : Nat), m ∈ l → ixOf (szD m) (l.map szD) k = some (k + l.idxOf m)
  | [], k, h => by cases h
  | a :: l, k, h => by
    rw [List.idxOf_cons]
    by_cases q : a = m
    · simp [ixOf, eqv_sz, q]
    · have hm : m ∈ l := by
        rcases List.mem_cons.mp h with z | z
        · exact absurd z.symm q
        · exact z
      have := ixOf_sz l (k + 1) hm
      have qb : (a == m) = false := by simpa using q
      simp only [List.map_cons, ixOf, eqv_sz, qb]
      simp [q, this]
      omega
theorem ix_sz {m : List Int} {l : List (List Int)} (h : m ∈ l) : ixDeep (szD m) (l.map szD) = some (.int (l.idxOf m : Nat)) := by
  have s1 : shp (.list (l.map szD)) = true := lay_shp (k := 3) (lay_list fun d hd => by obtain ⟨i, _, rfl⟩ := List.mem_map.mp hd; exact lay_sz) (by decide)
  have s2 : shp (szD m) = true := lay_shp (k := 2) lay_sz (by decide)
  unfold ixDeep
  rw [s1, s2, ixOf_sz l 0 h]
  simp
/-! the parts of a menu -/
def grP (F : List (List Int)) (t : Int) : List (List Int) := F ++ F.map fun p => p ++ [t]
def prtF (m : List Int) : List (List Int) := m.foldl grP [[]]
theorem prt_len (m : List Int) : (prtF m).length = 2 ^ m.length := by
  have key : ∀ (m : List Int) (F : List (List Int)), (m.foldl grP F).length = F.length * 2 ^ m.length := fun m => by
    induction m with
    | nil => intro F; simp
    | cons t m ih =>
      intro F
      rw [List.foldl_cons, ih]
      unfold grP
      rw [List.length_append, List.length_map, List.length_cons, Nat.pow_succ, Nat.mul_comm (2 ^ m.length) 2, ← Nat.mul_assoc]
      congr 1
      omega
  rw [prtF, key]; simp
theorem prt_in (m : List Int) : ∀ p ∈ prtF m, p.length ≤ m.length := by
  have key : ∀ (m : List Int) (F : List (List Int)) (k : Nat), (∀ p ∈ F, p.length ≤ k) → ∀ p ∈ m.foldl grP F, p.length ≤ k + m.length := fun m => by
    induction m with
    | nil => intro F k h p hp; exact h p hp
    | cons t m ih =>
      intro F k h p hp
      rw [List.foldl_cons] at hp
      have := ih (grP F t) (k + 1) (fun q hq => by
        rcases List.mem_append.mp hq with hq | hq
        · have := h q hq; omega
        · obtain ⟨r, hr, rfl⟩ := List.mem_map.mp hq
          have := h r hr
          rw [List.length_append]; simp; omega) p hp
      rw [List.length_cons]; omega
  intro p hp
  have := key m [[]] 0 (fun q hq => by rw [List.mem_singleton.mp hq]; exact Nat.le_refl _) p hp
  omega
theorem prt_snoc {m : List Int} {i : Nat} {t : Int} (h : m[i]? = some t) : prtF (m.take (i + 1)) = grP (prtF (m.take i)) t := by
  unfold prtF
  rw [take_snoc h, List.foldl_append]
  rfl
theorem law_parts_ok {m : List Int} {S : List So} (hm : m.length ≤ 5) : m__law_parts [tupI m] S = .ok (.list ((prtF m).tail.map tupI)) S := by
  rw [← wpf_eq]
  simp only [m__law_parts]
  rw [wp_fn (by rfl)]
  simp [b__law_parts]
  refine wp_for ?_
  simp
  refine forD_wp (fun i s => ∃ a2, s = ⟨[.val (tupI m), .val (.list ((prtF (m.take i)).map tupI)), a2, .non], S⟩) ?_ ?_ ⟨_, rfl⟩
  · rintro i d s hd ⟨a2, rfl⟩
    rw [List.getElem?_map] at hd
    obtain ⟨t, ht, rfl⟩ := Option.map_eq_some_iff.mp hd
    have hi := (List.getElem?_eq_some_iff.mp ht).1
    rw [prt_snoc ht]
    have pl := prt_len (m.take i)
    rw [List.length_take, Nat.min_eq_left (by omega)] at pl
    have p5 : 2 ^ i ≤ 2 ^ 5 := Nat.pow_le_pow_right (by decide) (by omega)
    have pi := prt_in (m.take i)
    generalize prtF (m.take i) = F at pl pi
    simp
    refine wp_lc ?_
    simp
    refine ⟨fun j acc s => s = ⟨[.val (tupI m), .val (.list (F.map tupI)), .val (.int t), .non], S⟩ ∧ acc = ((F.take j).map fun p => p ++ [t]).map tupI, ⟨rfl, by simp⟩, ?_, ?_⟩
    · rintro j d acc s p hp rfl ⟨rfl, rfl⟩
      have ep : PyData.tuple (p.map PyData.int ++ [.int t]) = tupI (p ++ [t]) := by simp [tupI]
      have pl2 := pi p (List.mem_of_getElem? hp)
      rw [List.length_take] at pl2
      have ea : opAdd (tupI p) (.tuple [.int t]) = some (tupI (p ++ [t])) := by
        rw [← ep]
        unfold opAdd tupI
        simp
        omega
      simp [take_snoc hp, ea]
    · rintro acc s ⟨rfl, rfl⟩
      rw [List.take_length]
      have e := opAdd_lists (a := F.map tupI) (b := (F.map fun p => p ++ [t]).map tupI) (by simp; omega)
      simp only [List.map_map] at e ⊢
      simp [grP, e]
  · rintro s ⟨a2, rfl⟩
    rw [List.length_map, List.take_length]
    simp
/-! the tables, menu by menu -/
def ixB (n : Nat) (m : List Int) : Nat := (bsF n).idxOf m
def okRow (n : Nat) (rows : List (List Int)) (m p : List Int) : Bool := (m.filter fun x => !decide (x ∈ p)).all fun x => decide (rows.getD (ixB n (lessF m x)) [] = p)
def stRow (n : Nat) (m : List Int) (rows : List (List Int)) : List (List (List Int)) := ((prtF m).tail.filter (okRow n rows m)).map fun p => rows ++ [p]
def stF (n : Nat) : Nat → List (List (List Int))
  | 0 => [[]]
  | k + 1 => (stF n k).flatMap (stRow n ((bsF n).getD k []))
def stL (n : Nat) : List (List (List Int)) := (stF n (bsF n).length).map fun rows => (menus n).map fun m => rows.getD (ixB n m) []
def rowD (rows : List (List Int)) : PyData := .list (rows.map tupI)
def chk (n : Nat) : Bool := ((bsF n).zipIdx.all fun mk => decide (mk.1.length ≤ 5) && (prtF mk.1).tail.all fun p => mk.1.all fun x => decide (x ∈ p) || (decide (lessF mk.1 x ∈ bsF n) && decide (ixB n (lessF mk.1 x) < mk.2) && decide ((lessF mk.1 x).length + 1 = mk.1.length))) && (List.range ((bsF n).length + 1)).all (fun k => decide ((stF n k).length ≤ 1000)) && ((menus n).all fun m => decide (m ∈ bsF n)) && decide ((bsF n).length ≤ 31)
theorem chk_ok {n : Nat} (h : n = 1 ∨ n = 2 ∨ n = 3) : chk n = true := by
  rcases h with rfl | rfl | rfl <;> decide +kernel
theorem same_ok {n : Nat} (h : n = 1 ∨ n = 2 ∨ n = 3) : ((stL n).all fun A => decide (A ∈ stOnes n)) = true ∧ ((stOnes n).all fun A => decide (A ∈ stL n)) = true := by
  rcases h with rfl | rfl | rfl <;> exact ⟨by decide +kernel, by decide +kernel⟩
theorem stF_len (n : Nat) : ∀ k, ∀ rows ∈ stF n k, rows.length = k
  | 0, rows, h => by rw [List.mem_singleton.mp h]; rfl
  | k + 1, rows, h => by
    obtain ⟨r, hr, h2⟩ := List.mem_flatMap.mp h
    obtain ⟨p, _, rfl⟩ := List.mem_map.mp h2
    rw [List.length_append, stF_len n k r hr]; rfl
theorem rowD_at {rows : List (List Int)} {i : Nat} (h : i < rows.length) : atI (rows.map tupI) (i : Int) = some (tupI (rows.getD i [])) := by
  have := ix_nat (show (rows.map tupI)[i]? = some (tupI (rows.getD i [])) by rw [List.getElem?_map, List.getD_eq_getElem?_getD, List.getElem?_eq_getElem h]; rfl)
  exact this
theorem steady15_ok {n : Nat} {S : List So} (h : n = 1 ∨ n = 2 ∨ n = 3) : m__law_steady_ones [.int n] S = .ok (.list ((stL n).map rowD)) S := by
  have n5 : n ≤ 5 := by omega
  have c := chk_ok h
  unfold chk at c
  rw [Bool.and_eq_true, Bool.and_eq_true, Bool.and_eq_true, List.all_eq_true, List.all_eq_true, List.all_eq_true] at c
  obtain ⟨⟨⟨c1, c2⟩, c3⟩, c4⟩ := c
  have few : ∀ k, k ≤ (bsF n).length → (stF n k).length ≤ 1000 := fun k hk => by simpa using c2 k (List.mem_range.mpr (by omega))
  have inb : ∀ m ∈ menus n, m ∈ bsF n := fun m hm => by simpa using c3 m hm
  have bl : (bsF n).length ≤ 31 := by simpa using c4
  have ml := menus_len n5
  have hmk : ∀ m k, (bsF n)[k]? = some m → m.length ≤ 5 ∧ ∀ p ∈ (prtF m).tail, ∀ x ∈ m, x ∉ p → lessF m x ∈ bsF n ∧ ixB n (lessF m x) < k ∧ (lessF m x).length + 1 = m.length := fun m k hm => by
    have hz : (m, k) ∈ (bsF n).zipIdx := List.mem_zipIdx_iff_getElem?.mpr hm
    have := c1 _ hz
    rw [Bool.and_eq_true] at this
    refine ⟨by simpa using this.1, fun p hp x hx nx => ?_⟩
    have := List.all_eq_true.mp (List.all_eq_true.mp this.2 p hp) x hx
    simpa [nx, and_assoc] using this
  rw [← wpf_eq]
  simp only [m__law_steady_ones]
  rw [wp_fn (by rfl)]
  simp [b__law_steady_ones, law_menus_ok n5]
  refine wp_lcP (fun _ => true) (fun d => match d with | .tuple l => .tuple [.int (l.length : Nat), d] | d => d) ?_
  have em : ((((menus n).map tupI).filter fun _ => true).map fun d => match d with | .tuple l => PyData.tuple [.int (l.length : Nat), d] | d => d) = (menus n).map szD := by
    have ft : ∀ l : List PyData, l.filter (fun _ => true) = l := fun l => by simp
    rw [ft, List.map_map]
    refine List.map_congr_left fun m _ => ?_
    simp [tupI, szD]
  simp only [wp_iSeq, eVar_at, List.getElem?_cons_succ, List.getElem?_cons_zero, List.set_cons_succ, List.set_cons_zero, wp_ok, items_list, Option.some.injEq, exists_eq_left', em, sorted_sz h]
  refine ⟨fun d hd => ?_, ?_⟩
  · obtain ⟨m, hm, rfl⟩ := List.mem_map.mp hd
    simp
  refine wp_for ?_
  simp
  refine ⟨by omega, forD_wp (fun k s => ∃ a4 a5 a6 a7 a8 a9, s = ⟨[.val (.int n), .val (.list ((menus n).map tupI)), .val (.list ((bsF n).map szD)), .val (.list ((stF n k).map rowD)), a4, a5, a6, a7, a8, a9, .non, .non], S⟩ ∧ k ≤ (bsF n).length) ?_ ?_ ⟨_, _, _, _, _, _, rfl, Nat.zero_le _⟩⟩
  · rintro k d s hd ⟨a4, a5, a6, a7, a8, a9, rfl, hk⟩
    obtain ⟨rfl, hk⟩ := rg_get hd
    obtain ⟨m, hm⟩ : ∃ m, (bsF n)[k]? = some m := ⟨_, List.getElem?_eq_getElem hk⟩
    obtain ⟨m5, low⟩ := hmk m k hm
    have at_ : atI ((bsF n).map szD) (k : Int) = some (szD m) := ix_nat (by rw [List.getElem?_map, hm]; rfl)
    have nxt : stF n (k + 1) = (stF n k).flatMap (stRow n m) := by
      show (stF n k).flatMap (stRow n ((bsF n).getD k [])) = _
      rw [List.getD_eq_getElem?_getD, hm]; rfl
    have fk1 := few (k + 1) hk
    have sl := stF_len n k
    rw [nxt] at fk1 ⊢
    generalize stF n k = F at fk1 sl
    simp [at_, szD]
    refine wp_for ?_
    simp
    have part : ∀ j, ((F.take j).flatMap (stRow n m)).length ≤ 1000 := fun j => by
      have e : F.flatMap (stRow n m) = (F.take j).flatMap (stRow n m) ++ (F.drop j).flatMap (stRow n m) := by rw [← List.flatMap_append, List.take_append_drop]
      rw [e, List.length_append] at fk1
      omega
    refine forD_wp (fun j s => ∃ a5 a8 a9, s = ⟨[.val (.int n), .val (.list ((menus n).map tupI)), .val (.list ((bsF n).map szD)), .val (.list (F.map rowD)), .val (.int k), a5, .val (tupI m), .own (((F.take j).flatMap (stRow n m)).map rowD), a8, a9, .non, .non], S⟩) ?_ ?_ ⟨_, _, _, rfl⟩
    · rintro j d s hd ⟨b5, b8, b9, rfl⟩
      rw [List.getElem?_map] at hd
      obtain ⟨rows, hrows, rfl⟩ := Option.map_eq_some_iff.mp hd
      have rl := sl rows (List.mem_of_getElem? hrows)
      have p1 := part (j + 1)
      rw [flat_snoc hrows] at p1 ⊢
      generalize (F.take j).flatMap (stRow n m) = B at p1
      have er : stRow n m rows = ((prtF m).tail.filter (okRow n rows m)).map fun p => rows ++ [p] := rfl
      rw [er] at p1 ⊢
      have lp := fun S => law_parts_ok (S := S) m5
      generalize (prtF m).tail = Pt at low p1 lp
      simp
      refine wp_for ?_
      simp [lp]
      refine forD_wp (fun q s => ∃ a8 a9 Z, s = ⟨[.val (.int n), .val (.list ((menus n).map tupI)), .val (.list ((bsF n).map szD)), .val (.list (F.map rowD)), .val (.int k), .val (rowD rows), .val (tupI m), .own Z, a8, a9, .non, .non], S⟩ ∧ Z = (B ++ ((Pt.take q).filter (okRow n rows m)).map fun p => rows ++ [p]).map rowD) ?_ ?_ ⟨b8, b9, _, rfl, by simp⟩
      · rintro q d s hd ⟨c8, c9, Z, rfl, rfl⟩
        rw [List.getElem?_map] at hd
        obtain ⟨p, hp, rfl⟩ := Option.map_eq_some_iff.mp hd
        have lowp := low p (List.mem_of_getElem? hp)
        have bl2 : (B ++ ((Pt.take q).filter (okRow n rows m)).map fun p => rows ++ [p]).length ≤ 1000 := by
          refine Nat.le_trans ?_ p1
          rw [List.length_append, List.length_append, List.length_map, List.length_map]
          have := ((List.take_sublist q Pt).filter (okRow n rows m)).length_le
          omega
        have tk : (Pt.take (q + 1)).filter (okRow n rows m) = (Pt.take q).filter (okRow n rows m) ++ (if okRow n rows m p = true then [p] else []) := by
          rw [take_snoc hp, List.filter_append]
          by_cases z : okRow n rows m p = true <;> simp [z]
        have e9 : (B ++ ((Pt.take q).filter (okRow n rows m) ++ (if okRow n rows m p = true then [p] else [])).map fun p => rows ++ [p]) = (B ++ ((Pt.take q).filter (okRow n rows m)).map fun p => rows ++ [p]) ++ (if okRow n rows m p = true then [rows ++ [p]] else []) := by
          rw [List.map_append, List.append_assoc]
          split <;> rfl
        rw [tk, e9]
        generalize (B ++ ((Pt.take q).filter (okRow n rows m)).map fun p => rows ++ [p]) = C at bl2
        simp
        refine wp_lcP (onI fun x => !decide (x ∈ p)) (fun d => match d with | .int x => .int (ixB n (lessF m x) : Nat) | d => d) ?_
        simp only [wp_iSeq, eVar_at, List.getElem?_cons_succ, List.getElem?_cons_zero, List.set_cons_succ, List.set_cons_zero, wp_ok, items_tup, Option.some.injEq, exists_eq_left']
        refine ⟨fun d hd => ?_, ?_⟩
        · obtain ⟨x, hx, rfl⟩ := List.mem_map.mp hd
          simp
          refine ⟨by simp [onI], fun z => ?_⟩
          have nx : x ∉ p := by simpa [onI] using z
          obtain ⟨h1, h2, h3⟩ := lowp x hx nx
          have e : PyData.tuple [.int ((m.length : Int) - 1), tupI (lessF m x)] = szD (lessF m x) := by
            unfold szD
            congr 3
            omega
          simp [less_ok, e, ix_sz h1, ixB]
        · have e1 : (List.filter (onI fun x => !decide (x ∈ p)) (m.map PyData.int)).map (fun d => match d with | .int x => .int (ixB n (lessF m x) : Nat) | d => d) = (m.filter fun x => !decide (x ∈ p)).map fun x => PyData.int (ixB n (lessF m x) : Nat) := by
            have := fil_on (l := m) (q := fun x => !decide (x ∈ p))
            rw [List.map_id] at this
            rw [this, List.map_map]
            rfl
          rw [e1]
          have lowf : ∀ x ∈ m.filter (fun x => !decide (x ∈ p)), ixB n (lessF m x) < rows.length := fun x hx => by
            obtain ⟨h1, h2⟩ := List.mem_filter.mp hx
            rw [rl]
            exact (lowp x h1 (by simpa using h2)).2.1
          have eo : okRow n rows m p = (m.filter fun x => !decide (x ∈ p)).all fun x => decide (rows.getD (ixB n (lessF m x)) [] = p) := rfl
          rw [eo]
          generalize (m.filter fun x => !decide (x ∈ p)) = M at lowf
          have ra : opAdd (rowD rows) (.list [tupI p]) = some (rowD (rows ++ [p])) := by
            have := opAdd_lists (a := rows.map tupI) (b := [tupI p]) (by rw [List.length_map, rl]; simp; omega)
            rw [rowD, this, rowD, List.map_append]
            rfl
          refine wp_lc ?_
          simp
          refine ⟨fun j acc s => s = ⟨[.val (.int n), .val (.list ((menus n).map tupI)), .val (.list ((bsF n).map szD)), .val (.list (F.map rowD)), .val (.int k), .val (rowD rows), .val (tupI m), .own (C.map rowD), .val (tupI p), .val (.list (M.map fun x => .int (ixB n (lessF m x) : Nat))), .non, .non], S⟩ ∧ acc = (M.take j).map fun x => .bool (decide (rows.getD (ixB n (lessF m x)) [] = p)), ⟨rfl, by simp⟩, ?_, ?_⟩
          · rintro j d acc s x hx rfl ⟨rfl, rfl⟩
            simp [rowD, rowD_at (lowf x (List.mem_of_getElem? hx)), opEq_tupI, take_snoc hx]
          · rintro acc s ⟨rfl, rfl⟩
            rw [List.take_length]
            generalize hG : (M.all fun x => decide (rows.getD (ixB n (lessF m x)) [] = p)) = G
            have oa := opAll_bools (l := M) (p := fun x => decide (rows.getD (ixB n (lessF m x)) [] = p))
            rw [hG] at oa
            simp [oa, ra]
            intro hall
            have g1 : G = true := by
              rw [← hG]
              exact List.all_eq_true.mpr fun x hx => decide_eq_true (by rw [List.getD_eq_getElem?_getD]; exact hall x hx)
            rw [if_pos (by omega)]
            simp [g1]
            rw [if_pos hall]
            rfl
      · rintro s ⟨c8, c9, Z, rfl, rfl⟩
        simp
    · rintro s ⟨b5, b8, b9, rfl⟩
      simp
      omega
  · rintro s ⟨a4, a5, a6, a7, a8, a9, rfl, _⟩
    rw [rg_len]
    have sl := stF_len n (bsF n).length
    have e : (stL n).map rowD = (stF n (bsF n).length).map fun rows => rowD ((menus n).map fun m => rows.getD (ixB n m) []) := by
      unfold stL
      rw [List.map_map]
      rfl
    rw [e]
    generalize stF n (bsF n).length = F at sl
    refine wp_lc ?_
    simp
    refine ⟨fun j acc s => s = ⟨[.val (.int n), .val (.list ((menus n).map tupI)), .val (.list ((bsF n).map szD)), .val (.list (F.map rowD)), a4, .non, a6, a7, a8, a9, .non, .non], S⟩ ∧ acc = (F.take j).map fun rows => rowD ((menus n).map fun m => rows.getD (ixB n m) []), ⟨rfl, by simp⟩, ?_, ?_⟩
    · rintro j d acc s rows hrows rfl ⟨rfl, rfl⟩
      have rl := sl rows (List.mem_of_getElem? hrows)
      simp
      refine wp_lcP (fun _ => true) (fun d => match d with | .tuple l => tupI (rows.getD (ixB n ((intsOf l).getD [])) []) | d => d) ?_
      have ft : ∀ l : List PyData, l.filter (fun _ => true) = l := fun l => by simp
      have e2 : ((menus n).map tupI).map (fun d => match d with | .tuple l => tupI (rows.getD (ixB n ((intsOf l).getD [])) []) | d => d) = ((menus n).map fun m => rows.getD (ixB n m) []).map tupI := by
        rw [List.map_map, List.map_map]
        refine List.map_congr_left fun m _ => ?_
        simp [tupI, ints_of]
      simp only [wp_iSeq, eVar_at, List.getElem?_cons_succ, List.getElem?_cons_zero, List.set_cons_succ, List.set_cons_zero, wp_ok, items_list, Option.some.injEq, exists_eq_left', ft, e2]
      refine ⟨fun d hd => ?_, ?_⟩
      · obtain ⟨m, hm, rfl⟩ := List.mem_map.mp hd
        have hb := inb m hm
        have lt : ixB n m < rows.length := by rw [rl]; exact List.idxOf_lt_length_iff.mpr hb
        have es : PyData.tuple [.int (m.length : Int), tupI m] = szD m := rfl
        simp [es, ix_sz hb]
        rw [ints_of, rowD, opIx_list]
        have := rowD_at lt
        rw [List.getD_eq_getElem?_getD] at this
        exact this
      · simp [rowD]
        refine (take_snoc ?_).symm
        rw [List.getElem?_map, hrows]; rfl
    · rintro acc s ⟨rfl, rfl⟩
      rw [List.take_length]
      simp
theorem law_any_wp {n : Nat} {S : List So} {p c : Nat} {C : PyData → List So → Prop} (n1 : 1 ≤ n) (n5 : n ≤ 5) (h : Pen S p c) (hc : c + 200 < 1000000000)
    (k : ∀ es S', (es.map (·.1)).Sublist (menus n) → (∀ e ∈ es, e.2 ∈ e.1) → Pen S' p (c + 40) → Else S S' p → C (recD n es) S') : (m__law_any_record [rf p, .int n] S).wp C := by
  have ml := menus_len n5
  simp only [m__law_any_record]
  rw [wp_fn (by rfl)]
  simp [b__law_any_record]
  refine wp_for ?_
  simp [law_menus_ok n5]
  refine forD_wp (fun i s => i ≤ (menus n).length ∧ ∃ (es : List (List Int × Int)) (S' : List So) (a b : Slot), s = ⟨[.val (rf p), .val (.int n), .own (es.map entD), a, b], S'⟩ ∧
    (es.map (·.1)).Sublist ((menus n).take i) ∧ (∀ e ∈ es, e.2 ∈ e.1) ∧ Pen S' p (c + i) ∧ Else S S' p) ?_ ?_ ⟨Nat.zero_le _, [], S, .non, .non, rfl, .slnil, by simp, h, .refl⟩
  · rintro i d s hd ⟨hi, es, S', a, b, rfl, sub, ent, pen, els⟩
    rw [List.getElem?_map] at hd
    obtain ⟨m, hm, rfl⟩ := Option.map_eq_some_iff.mp hd
    have hlt : i < (menus n).length := (List.getElem?_eq_some_iff.mp hm).1
    have mok := menus_ok n5 m (List.mem_of_getElem? hm)
    have esl : es.length < 16777216 := by
      have := sub.length_le
      rw [List.length_map, List.length_take] at this
      omega
    have m1 : 1 ≤ m.length := List.length_pos_iff.mpr mok.ne
    have m5 := mok.len
    simp
    refine draw_wp pen (by omega) (by omega) (by omega) fun v S4 v0 v1 pen4 els4 => ?_
    simp
    refine ⟨fun pos => ?_, fun z => ?_⟩
    · have hu : v.toNat - 1 < m.length := by omega
      have eu : atI (m.map PyData.int) (v - 1) = some (.int m[v.toNat - 1]) := by
        have := ix_nat (show (m.map PyData.int)[v.toNat - 1]? = some (.int m[v.toNat - 1]) by rw [List.getElem?_map, List.getElem?_eq_getElem hu]; rfl)
        rw [show ((v.toNat - 1 : Nat) : Int) = v - 1 by omega] at this
        exact this
      simp [eu]
      rw [if_pos esl]
      refine ⟨hlt, es ++ [(m, m[v.toNat - 1])], S4, ⟨_, _, by simp [entD]; exact ⟨rfl, rfl⟩⟩, ?_, ?_, pen4.mono (by omega), els.trans els4⟩
      · rw [take_snoc hm, List.map_append]
        exact sub.append (.refl _)
      · intro a b he
        rcases List.mem_append.mp he with he | he
        · exact ent _ he
        · have := List.mem_singleton.mp he
          cases this
          exact List.getElem_mem hu
    · refine ⟨hlt, es, S4, ⟨rfl, rfl⟩, ?_, fun a b he => ent _ he, pen4.mono (by omega), els.trans els4⟩
      rw [take_snoc hm]
      exact sub.trans (List.sublist_append_left _ _)
  · rintro s ⟨_, es, S', a, b, rfl, sub, ent, pen, els⟩
    rw [List.length_map] at pen
    rw [List.length_map, List.take_length] at sub
    simp
    exact k es S' sub ent (pen.mono (by omega)) els
theorem expl_tab {n : Nat} {es : List Ent} {rk : List Int} (h : n = 1 ∨ n = 2 ∨ n = 3) (ho : OrdOk n rk) (ok : EntOk n es) : ((stL n).any fun A => makesB n rk es A) = explB es rk := by
  have n5 : n ≤ 5 := by omega
  obtain ⟨s1, s2⟩ := same_ok h
  rw [Bool.eq_iff_iff, List.any_eq_true]
  refine ⟨fun ⟨A, hA, mk⟩ => ?_, fun ex => ?_⟩
  · have := List.all_eq_true.mp s1 A hA
    obtain ⟨tb, st⟩ := (st_mem n5).mp (of_decide_eq_true this)
    unfold explB
    rw [no_clash ho ok tb.2 st ((makes_iff ho ok tb).mp mk)]
    rfl
  · have ap := all_apart (expl_none ex)
    have tb := tab_great n5 ok ap
    have ga := great_att ok ap
    have gs := great_steady ok ap
    have st : Steady n (look n ((menus n).map (greatF rk es))) := fun T hT x hx hn => by
      rw [look_map n5 hT] at hn ⊢
      rw [look_map n5 (less_menu ga hT hn)]
      exact gs T hT x hx hn
    have := List.all_eq_true.mp s2 _ ((st_mem n5).mpr ⟨tb, st⟩)
    refine ⟨_, of_decide_eq_true this, (makes_iff ho ok tb).mpr fun e he => ?_⟩
    rw [look_map n5 (ok e he).1]
    exact great_makes ok ap e he
theorem opEq_lints {a b : List Int} : opEq (.list (a.map .int)) (.list (b.map .int)) = some (.bool (decide (a = b))) := by
  have s : ∀ a : List Int, shp (.list (a.map PyData.int)) = true := fun a => lay_shp (k := 1) lay_listI (by decide)
  have e : PyData.eqv (.list (a.map .int)) (.list (b.map .int)) = PyData.eqv (tupI a) (tupI b) := rfl
  unfold opEq eqD
  show Option.map PyData.bool (if (shp (.list (a.map .int)) && shp (.list (b.map .int))) = true then some (PyData.eqv (.list (a.map .int)) (.list (b.map .int))) else none) = _
  rw [s a, s b, e, eqv_tupI]
  rfl
theorem mk_eq {n : Nat} {rk : List Int} {A : List (List Int)} : ∀ es : List Ent, decide ((es.map fun e => topF rk (look n A e.1)) = es.map (·.2)) = makesB n rk es A
  | [] => rfl
  | e :: es => by
    have ih := mk_eq (n := n) (rk := rk) (A := A) es
    rw [Bool.eq_iff_iff] at ih ⊢
    unfold makesB at ih ⊢
    simp only [List.map_cons, List.cons.injEq, List.all_cons, Bool.and_eq_true, decide_eq_true_eq, beq_iff_eq] at ih ⊢
    rw [ih]
theorem good (ns : List Int) (_ : ns.length ≤ 63) : ∃ S, m_law [scr ns] [] = .ok (.bool true) S := by
  refine good_of ?_
  have hl : opLen [scr ns] = some (.int ns.length) := by show some (PyData.int ((ns.map PyData.int).length : Nat)) = _; rw [List.length_map]
  have e1 : opMin2 [.int ns.length, .int 3] = some (.int (if (3 : Int) < ns.length then 3 else ns.length)) := rfl
  have e2 : ∀ b : Int, opMax2 [.int 1, .int b] = some (.int (if b > 1 then b else 1)) := fun b => rfl
  simp only [m_law]
  rw [wp_fn (by rfl)]
  simp [b_law]
  refine wp_for ?_
  simp [hl, e1, e2]
  refine ⟨by split <;> split <;> omega, forD_wp (fun i s => ∃ a1 a2 a3 a4 a5 a6 a7 a8 a9 a10 a11 S', s = ⟨[.val (scr ns), a1, a2, a3, a4, a5, a6, a7, a8, a9, a10, a11, .non, .non, .non], S'⟩) ?_ ?_ ⟨_, _, _, _, _, _, _, _, _, _, _, _, rfl⟩⟩
  · rintro i d s hd ⟨a1, a2, a3, a4, a5, a6, a7, a8, a9, a10, a11, S', rfl⟩
    obtain ⟨k, hk, rfl⟩ : ∃ k : Int, 0 ≤ k ∧ d = .int k := by
      unfold rgD at hd
      rw [List.getElem?_map] at hd
      obtain ⟨x, hx, rfl⟩ := Option.map_eq_some_iff.mp hd
      exact ⟨_, by omega, rfl⟩
    obtain ⟨c, ec⟩ := cell_at (ns := ns) (k := k) (S := S') hk
    obtain ⟨S1, ep, pen1, _⟩ := pen_new (c := c) (S := S')
    simp [ec, ep]
    generalize S'.length = P at pen1
    refine draw_wp pen1 (by decide) (by decide) (by decide) fun v S2 v0 v1 pen2 els2 => ?_
    simp [opFdiv_pos (i := v) (j := 2) (by decide) (by decide)]
    refine draw_wp pen2 (by decide) (by decide) (by decide) fun w S3 w0 w1 pen3 els3 => ?_
    simp [opMul_l (i := v / 2) (j := w) (by omega) (by omega)]
    obtain ⟨n, hn, h3⟩ : ∃ n : Nat, (n : Int) = 3 - v / 2 * w ∧ (n = 1 ∨ n = 2 ∨ n = 3) := by
      have : v / 2 = 0 ∨ v / 2 = 1 := by omega
      rcases this with z | z <;> rw [z]
      · exact ⟨3, by omega, .inr (.inr rfl)⟩
      · exact ⟨(3 - w).toNat, by omega, by omega⟩
    have h1 : 1 ≤ n := by omega
    have h5 : n ≤ 5 := by omega
    rw [← hn]
    simp [steady15_ok h3, law_menus_ok h5]
    have tb : ∀ A ∈ stL n, TabOk n A := fun A hA => ((st_mem h5).mp (of_decide_eq_true (List.all_eq_true.mp (same_ok h3).1 A hA))).1
    have an : ∀ es rk, OrdOk n rk → EntOk n es → ((stL n).any fun A => makesB n rk es A) = explB es rk := fun es rk ho ok => expl_tab h3 ho ok
    generalize stL n = L at tb an
    have ml := menus_len h5
    have ol := ords_len h5
    refine wp_for ?_
    simp
    refine forD_wp (fun t s => ∃ a4 a7 a8 a9 a10 a11 S', s = ⟨[.val (scr ns), .val (.int k), .val (rf P), .val (.int n), a4, .val (.list (L.map rowD)), .val (.list ((menus n).map tupI)), a7, a8, a9, a10, a11, .non, .non, .non], S'⟩ ∧ t ≤ 3 ∧ Pen S' P (2 + 40 * t)) ?_ ?_ ⟨_, _, _, _, _, _, _, rfl, by decide, pen3⟩
    · rintro t d s hd ⟨b4, b7, b8, b9, b10, b11, S4, rfl, ht, pen4⟩
      have ht3 := (rg_get (n := 3) hd).2
      simp
      refine law_any_wp h1 h5 pen4 (by omega) fun es S5 sub ent pen5 els5 => ?_
      have rok := rec_of (n := n) h1 h5 sub ent
      have eok := entOk_of sub ent
      have esl := rok.len
      have g0 := expls_gen rok
      have l0 := expls_len (n := n) (es := es) h5
      try simp
      refine wp_lcP (fun _ => true) (fun d => match d with | .tuple [.tuple l, _] => .int ((menus n).idxOf ((intsOf l).getD []) : Nat) | d => d) ?_
      have ft : ∀ l : List PyData, l.filter (fun _ => true) = l := fun l => by simp
      have m1 : (es.map entD).map (fun d => match d with | .tuple [.tuple l, _] => PyData.int ((menus n).idxOf ((intsOf l).getD []) : Nat) | d => d) = es.map fun e => .int ((menus n).idxOf e.1 : Nat) := by
        rw [List.map_map]
        refine List.map_congr_left fun e _ => ?_
        simp [entD, ints_of]
      have m2 : (es.map entD).map (fun d => match d with | .tuple [_, p] => p | d => d) = (es.map (·.2)).map .int := by
        rw [List.map_map, List.map_map]
        refine List.map_congr_left fun e _ => ?_
        simp [entD]
      simp [ft, m1]
      refine ⟨?_, ?_⟩
      · rintro _ m p he rfl
        simp [entD, ints_of, ixDeep_menu (eok _ he).1]
      · refine wp_lcP (fun _ => true) (fun d => match d with | .tuple [_, p] => p | d => d) ?_
        simp [ft, m2]
        refine ⟨?_, ?_⟩
        · rintro _ m p he rfl
          simp [entD]
        have an := fun rk ho => an es rk ho eok
        obtain ⟨Y, hY⟩ : ∃ Y, Y = explB es := ⟨_, rfl⟩
        have ge : (ords n).filter Y = expls n es := by rw [hY]; rfl
        rw [← hY] at an
        generalize expls n es = G at g0 l0 ge
        refine wp_for ?_
        simp [law_orders_ok h5]
        refine forD_wp (fun i s => ∃ a9, s = ⟨[.val (scr ns), .val (.int k), .val (rf P), .val (.int n), .val d, .val (.list (L.map rowD)), .val (.list ((menus n).map tupI)), .val (.list (es.map fun e => .int ((menus n).idxOf e.1 : Nat))), .val (.list ((es.map (·.2)).map .int)), a9, .val (recD n es), .own ((((ords n).take i).filter Y).map tupI), .non, .non, .non], S5⟩) ?_ ?_ ⟨_, by simp; rfl⟩
        · rintro i d s hd ⟨c9, rfl⟩
          rw [List.getElem?_map] at hd
          obtain ⟨rk, hrk, rfl⟩ := Option.map_eq_some_iff.mp hd
          have ho := ords_ok (List.mem_of_getElem? hrk)
          have fl : ((ords n).take i).length ≤ 3125 := Nat.le_trans (List.take_sublist i _).length_le ol
          have fl2 := List.length_filter_le Y ((ords n).take i)
          rw [take_snoc hrk, List.filter_append]
          generalize ((ords n).take i).filter Y = F at fl2
          have anr := an rk ho
          simp
          refine wp_lc ?_
          simp
          refine ⟨fun j acc s => s = ⟨[.val (scr ns), .val (.int k), .val (rf P), .val (.int n), .val d, .val (.list (L.map rowD)), .val (.list ((menus n).map tupI)), .val (.list (es.map fun e => .int ((menus n).idxOf e.1 : Nat))), .val (.list ((es.map (·.2)).map .int)), .val (tupI rk), .val (recD n es), .own (F.map tupI), .non, .non, .non], S5⟩ ∧ acc = (L.take j).map fun A => .bool (makesB n rk es A), ⟨by simp, by simp⟩, ?_, ?_⟩
          · rintro j e acc s A hA rfl ⟨rfl, rfl⟩
            have tA := tb A (List.mem_of_getElem? hA)
            simp
            refine wp_lc ?_
            simp
            refine ⟨fun q acc s => s = ⟨[.val (scr ns), .val (.int k), .val (rf P), .val (.int n), .val d, .val (.list (L.map rowD)), .val (.list ((menus n).map tupI)), .val (.list (es.map fun e => .int ((menus n).idxOf e.1 : Nat))), .val (.list ((es.map (·.2)).map .int)), .val (tupI rk), .val (recD n es), .own (F.map tupI), .non, .val (rowD A), .non], S5⟩ ∧ acc = (es.take q).map fun e => .int (topF rk (look n A e.1)), ⟨by simp, by simp⟩, ?_, ?_⟩
            · rintro q e acc s m p he rfl ⟨rfl, rfl⟩
              have hm := (eok _ (List.mem_of_getElem? he)).1
              obtain ⟨r, er, _⟩ := top_there ho (tA.2 m hm).1
              simp [rowD, look_at tA.1 hm, law_pick_ok er, take_snoc he]
            · rintro acc s ⟨rfl, rfl⟩
              have e1 : (es.map fun e => PyData.int (topF rk (look n A e.1))) = (es.map fun e => topF rk (look n A e.1)).map .int := by rw [List.map_map]; rfl
              rw [List.take_length, e1]
              have e3 := opEq_lints (a := es.map fun e => topF rk (look n A e.1)) (b := es.map (·.2))
              rw [mk_eq] at e3
              simp only [List.map_map] at e3 ⊢
              simp [e3]
              refine (take_snoc ?_).symm
              rw [List.getElem?_map, hA]; rfl
          · rintro acc s ⟨rfl, rfl⟩
            rw [List.take_length]
            have oa := opAny_bools (l := L) (p := makesB n rk es)
            have anr' : (L.any (makesB n rk es)) = Y rk := anr
            rw [anr'] at oa
            simp [oa]
            intro q
            rw [if_pos (by omega)]
            simp [q]
            try exact ⟨_, rfl⟩
        · rintro s ⟨c9, rfl⟩
          rw [List.length_map, List.take_length, ge]
          refine wp_gen ?_
          simp
          refine ⟨_, g0, by rw [List.length_map]; omega, ?_⟩
          rw [opNe_same (k := 2) lay_ords (by decide)]
          simp
          exact ⟨_, _, _, _, _, _, _, ⟨⟨rfl, rfl, rfl, rfl, rfl, rfl⟩, rfl⟩, by omega, pen5.mono (by omega)⟩
    · rintro s ⟨b4, b7, b8, b9, b10, b11, S4, rfl, _, _⟩
      simp
  · rintro s ⟨a1, a2, a3, a4, a5, a6, a7, a8, a9, a10, a11, S', rfl⟩
    simp
end DL
namespace DL
open PySem PySem.Spec PyProof.Rows L2
def topS (i : Nat) : Stmt := PySem.Challenge.pw_overlook_k15_whole_three_things.main.body.getD i (.Pass ⟨0, 0, 0, 0⟩)
/-- the names that the top leaves alone, and its numbers -/
structure Glo (mg : Str → Option Value) : Prop where
  z_all : mg "all" = none
  z_any : mg "any" = none
  z_bool : mg "bool" = none
  z_enumerate : mg "enumerate" = none
  z_int : mg "int" = none
  z_isinstance : mg "isinstance" = none
  z_len : mg "len" = none
  z_list : mg "list" = none
  z_max : mg "max" = none
  z_min : mg "min" = none
  z_range : mg "range" = none
  z_sorted : mg "sorted" = none
  z_tuple : mg "tuple" = none
  z_zip : mg "zip" = none
  c_MOST_THINGS : ∃ t, mg "MOST_THINGS" = some (.int 5 t)
section
variable {P : Program} {w : World} {K : PySem.W.Frag} {mg : Str → Option Value} {base : Heap} {f : Addr} {fd : FuncData}
abbrev N_is_whole : List Str := ["thing"]
theorem s_is_whole : FnScope N_is_whole ["thing"] (defScope (topS 5)) := ⟨rfl, rfl, rfl, by decide +kernel, rfl, by decide +kernel, by decide +kernel⟩
theorem k_is_whole (G : Glo mg)  (F : Fun K "is_whole" "is_whole" (topS 5) f fd) (hm : mg "is_whole" = some (.ref f)) : Lk P w K mg base 1 "is_whole" 1 m_is_whole :=
  have ND : (N_is_whole).Nodup := s_is_whole.nd
  lk_fn (N := N_is_whole) F hm s_is_whole rfl (F.binds (ps := ["thing"]) fun _ _ _ _ _ _ us hl => match us, hl with | [_], _ => rfl) fun cdv A up s H E hgd hr =>
    (dss_one (ds_ret (de_and (de_isi (T := "int") G.z_isinstance G.z_int bt_int (de_var 0)) (de_one (de_not (de_isi (T := "bool") G.z_isinstance G.z_bool bt_bool (de_var 0)))))))
abbrev N_is_between : List Str := ["thing", "low", "high"]
theorem s_is_between : FnScope N_is_between ["thing", "low", "high"] (defScope (topS 6)) := ⟨rfl, rfl, rfl, by decide +kernel, rfl, by decide +kernel, by decide +kernel⟩
theorem k_is_between (G : Glo mg) (L_is_whole : Lk P w K mg base 1 "is_whole" 1 m_is_whole) (F : Fun K "is_between" "is_between" (topS 6) f fd) (hm : mg "is_between" = some (.ref f)) : Lk P w K mg base 2 "is_between" 3 m_is_between :=
  have ND : (N_is_between).Nodup := s_is_between.nd
  lk_fn (N := N_is_between) F hm s_is_between rfl (F.binds (ps := ["thing", "low", "high"]) fun _ _ _ _ _ _ us hl => match us, hl with | [_, _, _], _ => rfl) fun cdv A up s H E hgd hr =>
    (dss_one (ds_ret (de_and (de_call L_is_whole (hr.mono (by decide)) hgd (dl_cons (de_var 0) dl_nil) (len_cons len_nil)) (de_one (de_chain dop_le dop_le (de_var 1) (de_var 0) (de_var 2))))))
abbrev N_is_row : List Str := ["thing", "low", "high"]
theorem s_is_row : FnScope N_is_row ["thing", "low", "high"] (defScope (topS 7)) := ⟨rfl, rfl, rfl, by decide +kernel, rfl, by decide +kernel, by decide +kernel⟩
theorem k_is_row (G : Glo mg)  (F : Fun K "is_row" "is_row" (topS 7) f fd) (hm : mg "is_row" = some (.ref f)) : Lk P w K mg base 1 "is_row" 3 m_is_row :=
  have ND : (N_is_row).Nodup := s_is_row.nd
  lk_fn (N := N_is_row) F hm s_is_row rfl (F.binds (ps := ["thing", "low", "high"]) fun _ _ _ _ _ _ us hl => match us, hl with | [_, _, _], _ => rfl) fun cdv A up s H E hgd hr =>
    (dss_one (ds_ret (de_and (de_isi (T := "tuple") G.z_isinstance G.z_tuple bt_tuple (de_var 0)) (de_one (de_chain dop_le dop_le (de_var 1) (de_callB dc_len G.z_len bt_len (dl_cons (de_var 0) dl_nil)) (de_var 2))))))
abbrev N_rises : List Str := ["row", "one", "later"]
theorem s_rises : FnScope N_rises ["row"] (defScope (topS 8)) := ⟨rfl, rfl, rfl, by decide +kernel, rfl, by decide +kernel, by decide +kernel⟩
theorem k_rises (G : Glo mg)  (F : Fun K "rises" "rises" (topS 8) f fd) (hm : mg "rises" = some (.ref f)) : Lk P w K mg base 1 "rises" 1 m_rises :=
  have ND : (N_rises).Nodup := s_rises.nd
  lk_fn (N := N_rises) F hm s_rises rfl (F.binds (ps := ["row"]) fun _ _ _ _ _ _ us hl => match us, hl with | [_], _ => rfl) fun cdv A up s H E hgd hr =>
    (dss_one (ds_ret (de_callB (dc_all rfl) G.z_all bt_all (dl_cons (de_new (dn_lc (own := [("one", 1), ("later", 2)]) rfl ND (di_zip G.z_zip (de_var 0) (de_sl (de_var 0) (do_some de_int) do_none)) (blkOk_by (own := [("one", 1), ("later", 2)]) (N := N_rises) (sc := defScope (topS 8)) (by decide +kernel)) (by decide) (fun _ _ _ _ _ => (dg_tup rfl (dgs_cons (dg_name 1 ND) (dgs_cons (dg_name 2 ND) dgs_nil)))) (fun _ _ _ _ _ => dts_nil) (fun _ _ _ _ _ => (de_cmp (dop_lt (u0 hr)) (de_var 1) (de_var 2))))) dl_nil))))
abbrev N_is_menu : List Str := ["many", "thing", "one"]
theorem s_is_menu : FnScope N_is_menu ["many", "thing"] (defScope (topS 9)) := ⟨rfl, rfl, rfl, by decide +kernel, rfl, by decide +kernel, by decide +kernel⟩
theorem k_is_menu (G : Glo mg) (L_is_between : Lk P w K mg base 2 "is_between" 3 m_is_between) (L_is_row : Lk P w K mg base 1 "is_row" 3 m_is_row) (L_rises : Lk P w K mg base 1 "rises" 1 m_rises) (F : Fun K "is_menu" "is_menu" (topS 9) f fd) (hm : mg "is_menu" = some (.ref f)) : Lk P w K mg base 3 "is_menu" 2 m_is_menu :=
  have ND : (N_is_menu).Nodup := s_is_menu.nd
  lk_fn (N := N_is_menu) F hm s_is_menu rfl (F.binds (ps := ["many", "thing"]) fun _ _ _ _ _ _ us hl => match us, hl with | [_, _], _ => rfl) fun cdv A up s H E hgd hr =>
    (dss_cons (ds_if (dt_w (dw_or (dt_not (dt_val (de_call L_is_row (hr.mono (by decide)) hgd (dl_cons (de_var 1) (dl_cons de_int (dl_cons (de_var 0) dl_nil))) (len_cons (len_cons (len_cons len_nil)))))) (dw_one (dt_not (dt_val (de_callB (dc_all rfl) G.z_all bt_all (dl_cons (de_new (dn_lc (own := [("one", 2)]) rfl ND (di_seq (w := false) (de_var 1)) (blkOk_by (own := [("one", 2)]) (N := N_is_menu) (sc := defScope (topS 9)) (by decide +kernel)) (by decide) (fun _ _ _ _ _ => (dg_name 2 ND)) (fun _ _ _ _ _ => dts_nil) (fun _ _ _ _ _ => (de_call L_is_between (hr.mono (by decide)) hgd (dl_cons (de_var 2) (dl_cons de_int (dl_cons (de_bin dop_sub (de_var 0) de_int) dl_nil))) (len_cons (len_cons (len_cons len_nil))))))) dl_nil))))))) (dss_one (ds_ret de_bl)) dss_nil)
    (dss_one (ds_ret (de_call L_rises (hr.mono (by decide)) hgd (dl_cons (de_var 1) dl_nil) (len_cons len_nil)))))
abbrev N_is_entry : List Str := ["many", "thing"]
theorem s_is_entry : FnScope N_is_entry ["many", "thing"] (defScope (topS 10)) := ⟨rfl, rfl, rfl, by decide +kernel, rfl, by decide +kernel, by decide +kernel⟩
theorem k_is_entry (G : Glo mg) (L_is_menu : Lk P w K mg base 3 "is_menu" 2 m_is_menu) (L_is_row : Lk P w K mg base 1 "is_row" 3 m_is_row) (L_is_whole : Lk P w K mg base 1 "is_whole" 1 m_is_whole) (F : Fun K "is_entry" "is_entry" (topS 10) f fd) (hm : mg "is_entry" = some (.ref f)) : Lk P w K mg base 4 "is_entry" 2 m_is_entry :=
  have ND : (N_is_entry).Nodup := s_is_entry.nd
  lk_fn (N := N_is_entry) F hm s_is_entry rfl (F.binds (ps := ["many", "thing"]) fun _ _ _ _ _ _ us hl => match us, hl with | [_, _], _ => rfl) fun cdv A up s H E hgd hr =>
    (dss_cons (ds_if (dt_w (dw_or (dt_not (dt_val (de_call L_is_row (hr.mono (by decide)) hgd (dl_cons (de_var 1) (dl_cons de_int (dl_cons de_int dl_nil))) (len_cons (len_cons (len_cons len_nil)))))) (dw_one (dt_not (dt_val (de_call L_is_menu (hr.mono (by decide)) hgd (dl_cons (de_var 0) (dl_cons (de_ix (de_var 1) de_int) dl_nil)) (len_cons (len_cons len_nil)))))))) (dss_one (ds_ret de_bl)) dss_nil)
    (dss_one (ds_ret (de_and (de_call L_is_whole (hr.mono (by decide)) hgd (dl_cons (de_ix (de_var 1) de_int) dl_nil) (len_cons len_nil)) (de_one (de_cmp (dop_in (uR hr)) (de_ix (de_var 1) de_int) (de_ix (de_var 1) de_int)))))))
abbrev N_is_record : List Str := ["thing", "many", "entries", "entry", "menu", "pick"]
theorem s_is_record : FnScope N_is_record ["thing"] (defScope (topS 11)) := ⟨rfl, rfl, rfl, by decide +kernel, rfl, by decide +kernel, by decide +kernel⟩
theorem k_is_record (G : Glo mg) (L_is_between : Lk P w K mg base 2 "is_between" 3 m_is_between) (L_is_entry : Lk P w K mg base 4 "is_entry" 2 m_is_entry) (L_is_row : Lk P w K mg base 1 "is_row" 3 m_is_row) (L_rises : Lk P w K mg base 1 "rises" 1 m_rises) (F : Fun K "is_record" "is_record" (topS 11) f fd) (hm : mg "is_record" = some (.ref f)) : Lk P w K mg base 5 "is_record" 1 m_is_record :=
  have ND : (N_is_record).Nodup := s_is_record.nd
  lk_fn (N := N_is_record) F hm s_is_record rfl (F.binds (ps := ["thing"]) fun _ _ _ _ _ _ us hl => match us, hl with | [_], _ => rfl) fun cdv A up s H E hgd hr =>
    (dss_cons (ds_if (dt_w (dw_or (dt_not (dt_val (de_call L_is_row (hr.mono (by decide)) hgd (dl_cons (de_var 0) (dl_cons de_int (dl_cons de_int dl_nil))) (len_cons (len_cons (len_cons len_nil)))))) (dw_or (dt_not (dt_val (de_call L_is_between (hr.mono (by decide)) hgd (dl_cons (de_ix (de_var 0) de_int) (dl_cons de_int (dl_cons (de_globI G.c_MOST_THINGS.choose_spec) dl_nil))) (len_cons (len_cons (len_cons len_nil)))))) (dw_one (dt_not (dt_val (de_isi (T := "tuple") G.z_isinstance G.z_tuple bt_tuple (de_ix (de_var 0) de_int)))))))) (dss_one (ds_ret de_bl)) dss_nil)
    (dss_cons (ds_asg (de_var 0) (dg_tup rfl (dgs_cons (dg_name 1 ND) (dgs_cons (dg_name 2 ND) dgs_nil))))
    (dss_one (ds_ret (de_and (de_callB (dc_all rfl) G.z_all bt_all (dl_cons (de_new (dn_lc (own := [("entry", 3)]) rfl ND (di_seq (w := false) (de_var 2)) (blkOk_by (own := [("entry", 3)]) (N := N_is_record) (sc := defScope (topS 11)) (by decide +kernel)) (by decide) (fun _ _ _ _ _ => (dg_name 3 ND)) (fun _ _ _ _ _ => dts_nil) (fun _ _ _ _ _ => (de_call L_is_entry (hr.mono (by decide)) hgd (dl_cons (de_var 1) (dl_cons (de_var 3) dl_nil)) (len_cons (len_cons len_nil)))))) dl_nil)) (de_one (de_call L_rises (hr.mono (by decide)) hgd (dl_cons (de_new (dn_lc (own := [("menu", 4), ("pick", 5)]) rfl ND (di_seq (w := false) (de_var 2)) (blkOk_by (own := [("menu", 4), ("pick", 5)]) (N := N_is_record) (sc := defScope (topS 11)) (by decide +kernel)) (by decide) (fun _ _ _ _ _ => (dg_tup rfl (dgs_cons (dg_name 4 ND) (dgs_cons (dg_name 5 ND) dgs_nil)))) (fun _ _ _ _ _ => dts_nil) (fun _ _ _ _ _ => (de_var 4)))) dl_nil) (len_cons len_nil))))))))
abbrev N_need_record : List Str := ["thing"]
theorem s_need_record : FnScope N_need_record ["thing"] (defScope (topS 12)) := ⟨rfl, rfl, rfl, by decide +kernel, rfl, by decide +kernel, by decide +kernel⟩
theorem k_need_record (G : Glo mg) (L_is_record : Lk P w K mg base 5 "is_record" 1 m_is_record) (F : Fun K "need_record" "need_record" (topS 12) f fd) (hm : mg "need_record" = some (.ref f)) : Lk P w K mg base 6 "need_record" 1 m_need_record :=
  have ND : (N_need_record).Nodup := s_need_record.nd
  lk_fn (N := N_need_record) F hm s_need_record rfl (F.binds (ps := ["thing"]) fun _ _ _ _ _ _ us hl => match us, hl with | [_], _ => rfl) fun cdv A up s H E hgd hr =>
    (dss_one (ds_if (dt_not (dt_val (de_call L_is_record (hr.mono (by decide)) hgd (dl_cons (de_var 0) dl_nil) (len_cons len_nil)))) (dss_one (ds_never _)) dss_nil))
abbrev N_all_rankings : List Str := ["many", "found", "turn", "order", "thing"]
theorem s_all_rankings : FnScope N_all_rankings ["many"] (defScope (topS 14)) := ⟨rfl, rfl, rfl, by decide +kernel, rfl, by decide +kernel, by decide +kernel⟩
theorem k_all_rankings (G : Glo mg)  (F : Fun K "all_rankings" "all_rankings" (topS 14) f fd) (hm : mg "all_rankings" = some (.ref f)) : Lk P w K mg base 1 "all_rankings" 1 m_all_rankings :=
  have ND : (N_all_rankings).Nodup := s_all_rankings.nd
  lk_fn (N := N_all_rankings) F hm s_all_rankings rfl (F.binds (ps := ["many"]) fun _ _ _ _ _ _ us hl => match us, hl with | [_], _ => rfl) fun cdv A up s H E hgd hr =>
    (dss_cons (ds_asg (de_new (dn_lst (dl_cons (de_tup dl_nil) dl_nil))) (dg_name 1 ND))
    (dss_cons (ds_for PassesOwn.never rfl (di_range1 G.z_range (de_var 0)) (dg_name 2 ND) (dss_one (ds_lc2Asg 1 (own := [("order", 3), ("thing", 4)]) (vs1 := [4]) rfl ND (di_seq (w := false) (de_var 1)) (blkOk_by (own := [("order", 3), ("thing", 4)]) (N := N_all_rankings) (sc := defScope (topS 14)) (by decide +kernel)) (by decide) (by decide) (by decide) (fun _ _ _ _ _ => (dg_name 3 ND)) (fun _ _ _ _ _ => dts_nil) (fun _ _ _ _ _ => (di_range1 G.z_range (de_var 0))) (fun _ _ _ _ _ => (dg_name 4 ND)) (fun _ _ _ _ _ => (dts_one (dt_cmp (dop_notIn (uR hr)) (de_var 4) (de_var 3)))) (fun _ _ _ _ _ => (de_tup (dl_star (de_var 3) (dl_cons (de_var 4) dl_nil)))))))
    (dss_one (ds_ret (de_var 1)))))
abbrev N_pairs_of : List Str := ["record", "found", "entries", "later", "other", "second", "place", "menu", "first", "alone", "one"]
theorem s_pairs_of : FnScope N_pairs_of ["record"] (defScope (topS 15)) := ⟨rfl, rfl, rfl, by decide +kernel, rfl, by decide +kernel, by decide +kernel⟩
theorem k_pairs_of (G : Glo mg)  (F : Fun K "pairs_of" "pairs_of" (topS 15) f fd) (hm : mg "pairs_of" = some (.ref f)) : Lk P w K mg base 1 "pairs_of" 1 m_pairs_of :=
  have ND : (N_pairs_of).Nodup := s_pairs_of.nd
  lk_fn (N := N_pairs_of) F hm s_pairs_of rfl (F.binds (ps := ["record"]) fun _ _ _ _ _ _ us hl => match us, hl with | [_], _ => rfl) fun cdv A up s H E hgd hr =>
    (dss_cons (ds_par2 1 2 rfl ND (dp_n (dn_lst dl_nil)) (dp_d (de_ix (de_var 0) de_int)))
    (dss_cons (ds_for PassesOwn.never rfl (di_enum G.z_enumerate (de_var 2)) (dg_tup rfl (dgs_cons (dg_name 3 ND) (dgs_cons (dg_tup rfl (dgs_cons (dg_name 4 ND) (dgs_cons (dg_name 5 ND) dgs_nil))) dgs_nil))) (dss_one (ds_for PassesOwn.never rfl (di_enum G.z_enumerate (de_sl (de_var 2) do_none (do_some (de_var 3)))) (dg_tup rfl (dgs_cons (dg_name 6 ND) (dgs_cons (dg_tup rfl (dgs_cons (dg_name 7 ND) (dgs_cons (dg_name 8 ND) dgs_nil))) dgs_nil))) (dss_one (ds_if (dt_w (dw_and (dt_cmp (dop_ne (uR hr)) (de_var 8) (de_var 5)) (dw_and (dt_cmp (dop_in (uR hr)) (de_var 8) (de_var 4)) (dw_one (dt_cmp (dop_in (uR hr)) (de_var 5) (de_var 7)))))) (dss_cons (ds_asg (de_tup (dl_cons (de_new (dn_lc (own := [("one", 10)]) rfl ND (di_seq (w := false) (de_var 7)) (blkOk_by (own := [("one", 10)]) (N := N_pairs_of) (sc := defScope (topS 15)) (by decide +kernel)) (by decide) (fun _ _ _ _ _ => (dg_name 10 ND)) (fun _ _ _ _ _ => (dts_one (dt_cmp (dop_notIn (uR hr)) (de_var 10) (de_var 4)))) (fun _ _ _ _ _ => (de_var 10)))) (dl_cons (de_new (dn_lc (own := [("one", 10)]) rfl ND (di_seq (w := false) (de_var 4)) (blkOk_by (own := [("one", 10)]) (N := N_pairs_of) (sc := defScope (topS 15)) (by decide +kernel)) (by decide) (fun _ _ _ _ _ => (dg_name 10 ND)) (fun _ _ _ _ _ => (dts_one (dt_cmp (dop_notIn (uR hr)) (de_var 10) (de_var 7)))) (fun _ _ _ _ _ => (de_var 10)))) dl_nil))) (dg_name 9 ND))
    (dss_one (ds_app 1 (de_tup (dl_cons (de_tup (dl_cons (de_var 6) (dl_cons (de_var 3) dl_nil))) (dl_cons (de_tup (dl_cons (de_var 8) (dl_cons (de_var 5) dl_nil))) (dl_cons (de_var 9) dl_nil))))))) dss_nil)))))
    (dss_one (ds_ret (de_new (dn_callB (cn_sorted (uR hr)) G.z_sorted bt_sorted (dl_cons (de_var 1) dl_nil)))))))
abbrev N_is_clash : List Str := ["pair", "places", "positions", "picks", "alone", "pick", "things", "thing"]
theorem s_is_clash : FnScope N_is_clash ["pair", "places"] (defScope (topS 16)) := ⟨rfl, rfl, rfl, by decide +kernel, rfl, by decide +kernel, by decide +kernel⟩
theorem k_is_clash (G : Glo mg)  (F : Fun K "is_clash" "is_clash" (topS 16) f fd) (hm : mg "is_clash" = some (.ref f)) : Lk P w K mg base 1 "is_clash" 2 m_is_clash :=
  have ND : (N_is_clash).Nodup := s_is_clash.nd
  lk_fn (N := N_is_clash) F hm s_is_clash rfl (F.binds (ps := ["pair", "places"]) fun _ _ _ _ _ _ us hl => match us, hl with | [_, _], _ => rfl) fun cdv A up s H E hgd hr =>
    (dss_cons (ds_asg (de_var 0) (dg_tup rfl (dgs_cons (dg_name 2 ND) (dgs_cons (dg_name 3 ND) (dgs_cons (dg_name 4 ND) dgs_nil)))))
    (dss_cons (ds_for PassesOwn.never rfl (di_zip G.z_zip (de_var 3) (de_var 4)) (dg_tup rfl (dgs_cons (dg_name 5 ND) (dgs_cons (dg_name 6 ND) dgs_nil))) (dss_one (ds_if (dt_val (de_callB (dc_any rfl) G.z_any bt_any (dl_cons (de_new (dn_lc (own := [("thing", 7)]) rfl ND (di_seq (w := false) (de_var 6)) (blkOk_by (own := [("thing", 7)]) (N := N_is_clash) (sc := defScope (topS 16)) (by decide +kernel)) (by decide) (fun _ _ _ _ _ => (dg_name 7 ND)) (fun _ _ _ _ _ => dts_nil) (fun _ _ _ _ _ => (de_cmp dop_gt (de_ix (de_var 1) (de_var 7)) (de_ix (de_var 1) (de_var 5)))))) dl_nil))) (dss_one (ds_ret de_bl)) dss_nil)))
    (dss_one (ds_ret de_bl))))
abbrev N_places_in : List Str := ["ranking", "thing"]
theorem s_places_in : FnScope N_places_in ["ranking"] (defScope (topS 17)) := ⟨rfl, rfl, rfl, by decide +kernel, rfl, by decide +kernel, by decide +kernel⟩
theorem k_places_in (G : Glo mg)  (F : Fun K "places_in" "places_in" (topS 17) f fd) (hm : mg "places_in" = some (.ref f)) : Lk P w K mg base 1 "places_in" 1 m_places_in :=
  have ND : (N_places_in).Nodup := s_places_in.nd
  lk_fn (N := N_places_in) F hm s_places_in rfl (F.binds (ps := ["ranking"]) fun _ _ _ _ _ _ us hl => match us, hl with | [_], _ => rfl) fun cdv A up s H E hgd hr =>
    (dss_one (ds_ret (de_new (dn_lc (own := [("thing", 1)]) rfl ND (di_range1 G.z_range (de_callB dc_len G.z_len bt_len (dl_cons (de_var 0) dl_nil))) (blkOk_by (own := [("thing", 1)]) (N := N_places_in) (sc := defScope (topS 17)) (by decide +kernel)) (by decide) (fun _ _ _ _ _ => (dg_name 1 ND)) (fun _ _ _ _ _ => dts_nil) (fun _ _ _ _ _ => (de_idxT (de_var 0) (de_var 1)))))))
abbrev N_clashes_of : List Str := ["pairs", "ranking", "places", "pair"]
theorem s_clashes_of : FnScope N_clashes_of ["pairs", "ranking"] (defScope (topS 18)) := ⟨rfl, rfl, rfl, by decide +kernel, rfl, by decide +kernel, by decide +kernel⟩
theorem k_clashes_of (G : Glo mg) (L_is_clash : Lk P w K mg base 1 "is_clash" 2 m_is_clash) (L_places_in : Lk P w K mg base 1 "places_in" 1 m_places_in) (F : Fun K "clashes_of" "clashes_of" (topS 18) f fd) (hm : mg "clashes_of" = some (.ref f)) : Lk P w K mg base 2 "clashes_of" 2 m_clashes_of :=
  have ND : (N_clashes_of).Nodup := s_clashes_of.nd
  lk_fn (N := N_clashes_of) F hm s_clashes_of rfl (F.binds (ps := ["pairs", "ranking"]) fun _ _ _ _ _ _ us hl => match us, hl with | [_, _], _ => rfl) fun cdv A up s H E hgd hr =>
    (dss_cons (ds_asg (de_call L_places_in (hr.mono (by decide)) hgd (dl_cons (de_var 1) dl_nil) (len_cons len_nil)) (dg_name 2 ND))
    (dss_one (ds_ret (de_new (dn_lc (own := [("pair", 3)]) rfl ND (di_seq (w := false) (de_var 0)) (blkOk_by (own := [("pair", 3)]) (N := N_clashes_of) (sc := defScope (topS 18)) (by decide +kernel)) (by decide) (fun _ _ _ _ _ => (dg_name 3 ND)) (fun _ _ _ _ _ => (dts_one (dt_val (de_call L_is_clash (hr.mono (by decide)) hgd (dl_cons (de_var 3) (dl_cons (de_var 2) dl_nil)) (len_cons (len_cons len_nil)))))) (fun _ _ _ _ _ => (de_ix (de_var 3) de_int)))))))
abbrev N_rankings_by : List Str := ["records", "pairs", "ranking", "record", "some"]
theorem s_rankings_by : GScope N_rankings_by ["records"] (defScope (topS 19)) := ⟨rfl, rfl, rfl, by decide +kernel, rfl, by decide +kernel, by decide +kernel⟩
theorem k_rankings_by (G : Glo mg) (L_all_rankings : Lk P w K mg base 1 "all_rankings" 1 m_all_rankings) (L_clashes_of : Lk P w K mg base 2 "clashes_of" 2 m_clashes_of) (L_pairs_of : Lk P w K mg base 1 "pairs_of" 1 m_pairs_of) (F : Fun K "rankings_by" "rankings_by" (topS 19) f fd) (hm : mg "rankings_by" = some (.ref f)) : LkG P w K mg base 3 "rankings_by" 0 m_rankings_by :=
  have ND : (N_rankings_by).Nodup := s_rankings_by.nd
  lkgs_fn (N := N_rankings_by) (ps := []) (pv := "records") F hm s_rankings_by rfl (fun kV doc pm an cdv ct => bind_s0 (B := fun l => bindArgs (PySem.W.fnOf "rankings_by" "rankings_by" (defArgs (topS 19)) (defBody (topS 19)) (defScope (topS 19)) .none kV doc pm an cdv ct) ⟨l, []⟩) rfl (fun _ _ => rfl)) fun cdv A up L a oa hgd hr =>
    (gss_cons (gs_pl fun _ _ => (ds_lcAsg (own := [("record", 3)]) 1 rfl ND (di_seq (w := false) (de_var 0)) (blkOk_by (own := [("record", 3)]) (N := N_rankings_by) (sc := defScope (topS 19)) (by decide +kernel)) (by decide) (fun _ _ _ _ _ => (dg_name 3 ND)) (fun _ _ _ _ _ => dts_nil) (fun _ _ _ _ _ => (de_call L_pairs_of (hr.mono (by decide)) hgd (dl_cons (de_var 3) dl_nil) (len_cons len_nil)))))
    (gss_one (gs_for (fun _ _ => (di_seq (w := false) (de_call L_all_rankings (hr.mono (by decide)) hgd (dl_cons (de_ix (de_ix (de_var 0) de_int) de_int) dl_nil) (len_cons len_nil)))) (fun _ _ => (dg_name 2 ND)) (gss_one (gs_if (fun _ _ => (dt_val (de_callB (dc_all rfl) G.z_all bt_all (dl_cons (de_new (dn_lc (own := [("some", 4)]) rfl ND (di_seq (w := false) (de_var 1)) (blkOk_by (own := [("some", 4)]) (N := N_rankings_by) (sc := defScope (topS 19)) (by decide +kernel)) (by decide) (fun _ _ _ _ _ => (dg_name 4 ND)) (fun _ _ _ _ _ => dts_nil) (fun _ _ _ _ _ => (de_cmp (dop_eq (uR hr)) (de_call L_clashes_of (hr.mono (by decide)) hgd (dl_cons (de_var 4) (dl_cons (de_var 2) dl_nil)) (len_cons (len_cons len_nil))) (de_new (dn_lst dl_nil)))))) dl_nil)))) (gss_one (gs_yl fun _ _ => (de_var 2))) gss_nil)))))
abbrev N_rankings : List Str := ["record", "ranking"]
theorem s_rankings : GScope N_rankings ["record"] (defScope (topS 20)) := ⟨rfl, rfl, rfl, by decide +kernel, rfl, by decide +kernel, by decide +kernel⟩
theorem k_rankings (G : Glo mg) (L_need_record : Lk P w K mg base 6 "need_record" 1 m_need_record) (L_rankings_by : LkG P w K mg base 3 "rankings_by" 0 m_rankings_by) (F : Fun K "rankings" "rankings" (topS 20) f fd) (hm : mg "rankings" = some (.ref f)) : LkG P w K mg base 7 "rankings" 1 m_rankings :=
  have ND : (N_rankings).Nodup := s_rankings.nd
  lkg_fn (N := N_rankings) F hm s_rankings rfl (F.binds (ps := ["record"]) fun _ _ _ _ _ _ us hl => match us, hl with | [_], _ => rfl) fun cdv A up L a oa hgd hr =>
    (gss_cons (gs_pl fun _ _ => (ds_expr (de_call L_need_record (hr.mono (by decide)) hgd (dl_cons (de_var 0) dl_nil) (len_cons len_nil))))
    (gss_one (gs_forG (fun _ _ => (pgn_call L_rankings_by (hr.mono (by decide)) hgd (dl_cons (de_var 0) dl_nil))) (hr.mono (by decide)) hgd (fun _ _ => (dg_name 1 ND)) (gss_one (gs_yl fun _ _ => (de_var 1))))))
abbrev N__law_cell_at : List Str := ["_law_script", "_law_k"]
theorem s__law_cell_at : FnScope N__law_cell_at ["_law_script", "_law_k"] (defScope (topS 22)) := ⟨rfl, rfl, rfl, by decide +kernel, rfl, by decide +kernel, by decide +kernel⟩
theorem k__law_cell_at (G : Glo mg)  (F : Fun K "_law_cell_at" "_law_cell_at" (topS 22) f fd) (hm : mg "_law_cell_at" = some (.ref f)) : Lk P w K mg base 1 "_law_cell_at" 2 m__law_cell_at :=
  have ND : (N__law_cell_at).Nodup := s__law_cell_at.nd
  lk_fn (N := N__law_cell_at) F hm s__law_cell_at rfl (F.binds (ps := ["_law_script", "_law_k"]) fun _ _ _ _ _ _ us hl => match us, hl with | [_, _], _ => rfl) fun cdv A up s H E hgd hr =>
    (dss_cons (ds_if (dt_cmp (dop_lt (u0 hr)) (de_var 1) (de_callB dc_len G.z_len bt_len (dl_cons (de_var 0) dl_nil))) (dss_one (ds_ret (de_ix (de_var 0) (de_var 1)))) dss_nil)
    (dss_one (ds_ret de_int)))
abbrev N__law_pen : List Str := ["_law_cell"]
theorem s__law_pen : FnScope N__law_pen ["_law_cell"] (defScope (topS 23)) := ⟨rfl, rfl, rfl, by decide +kernel, rfl, by decide +kernel, by decide +kernel⟩
theorem k__law_pen (G : Glo mg)  (F : Fun K "_law_pen" "_law_pen" (topS 23) f fd) (hm : mg "_law_pen" = some (.ref f)) : Lk P w K mg base 1 "_law_pen" 1 m__law_pen :=
  have ND : (N__law_pen).Nodup := s__law_pen.nd
  lk_fn (N := N__law_pen) F hm s__law_pen rfl (F.binds (ps := ["_law_cell"]) fun _ _ _ _ _ _ us hl => match us, hl with | [_], _ => rfl) fun cdv A up s H E hgd hr =>
    (dss_one (ds_ret (de_store (dn_lst (dl_cons (de_callB (dc_max2 rfl) G.z_max bt_max (dl_cons de_int (dl_cons (de_bin dop_sub (de_var 0) (de_bin dop_pow de_int de_int)) dl_nil))) (dl_cons (de_bin dop_mod (de_var 0) de_int) (dl_cons de_int dl_nil)))))))
abbrev N__law_draw : List Str := ["_law_pen_here", "_law_many", "_law_stir", "_law_digit"]
theorem s__law_draw : FnScope N__law_draw ["_law_pen_here", "_law_many"] (defScope (topS 24)) := ⟨rfl, rfl, rfl, by decide +kernel, rfl, by decide +kernel, by decide +kernel⟩
theorem k__law_draw (G : Glo mg)  (F : Fun K "_law_draw" "_law_draw" (topS 24) f fd) (hm : mg "_law_draw" = some (.ref f)) : Lk P w K mg base 1 "_law_draw" 2 m__law_draw :=
  have ND : (N__law_draw).Nodup := s__law_draw.nd
  lk_fn (N := N__law_draw) F hm s__law_draw rfl (F.binds (ps := ["_law_pen_here", "_law_many"]) fun _ _ _ _ _ _ us hl => match us, hl with | [_, _], _ => rfl) fun cdv A up s H E hgd hr =>
    (dss_cons (ds_if (dt_cmp dop_gt (de_ixR (de_var 0) de_int) de_int) (dss_cons (ds_asg (de_bin dop_mod (de_ixR (de_var 0) de_int) (de_var 1)) (dg_name 3 ND))
    (dss_cons (ds_setR (de_bin dop_fdiv (de_ixR (de_var 0) de_int) (de_var 1)) (de_var 0) de_int)
    (dss_one (ds_ret (de_var 3))))) dss_nil)
    (dss_cons (ds_setR (de_bin dop_add (de_ixR (de_var 0) de_int) de_int) (de_var 0) de_int)
    (dss_cons (ds_asg (de_bin dop_mod (de_bin dop_mul (de_bin dop_add (de_ixR (de_var 0) de_int) (de_bin dop_mul de_int (de_ixR (de_var 0) de_int))) (de_bin dop_add de_int (de_bin dop_mul de_int (de_ixR (de_var 0) de_int)))) de_int) (dg_name 2 ND))
    (dss_cons (ds_asg (de_bin dop_mod (de_bin dop_add (de_bin dop_add (de_bin dop_mul (de_var 2) (de_var 2)) (de_bin dop_mul de_int (de_ixR (de_var 0) de_int))) de_int) de_int) (dg_name 2 ND))
    (dss_one (ds_ret (de_bin dop_mod (de_bin dop_fdiv (de_bin dop_mod (de_bin dop_mul (de_var 2) de_int) de_int) de_int) (de_var 1))))))))
abbrev N__law_menus : List Str := ["_law_many", "_law_found", "_law_thing", "_law_menu"]
theorem s__law_menus : FnScope N__law_menus ["_law_many"] (defScope (topS 25)) := ⟨rfl, rfl, rfl, by decide +kernel, rfl, by decide +kernel, by decide +kernel⟩
theorem k__law_menus (G : Glo mg)  (F : Fun K "_law_menus" "_law_menus" (topS 25) f fd) (hm : mg "_law_menus" = some (.ref f)) : Lk P w K mg base 1 "_law_menus" 1 m__law_menus :=
  have ND : (N__law_menus).Nodup := s__law_menus.nd
  lk_fn (N := N__law_menus) F hm s__law_menus rfl (F.binds (ps := ["_law_many"]) fun _ _ _ _ _ _ us hl => match us, hl with | [_], _ => rfl) fun cdv A up s H E hgd hr =>
    (dss_cons (ds_asg (de_new (dn_lst (dl_cons (de_tup dl_nil) dl_nil))) (dg_name 1 ND))
    (dss_cons (ds_for PassesOwn.never rfl (di_range1 G.z_range (de_var 0)) (dg_name 2 ND) (dss_one (ds_asg (de_bin dop_add (de_var 1) (de_new (dn_lc (own := [("_law_menu", 3)]) rfl ND (di_seq (w := false) (de_var 1)) (blkOk_by (own := [("_law_menu", 3)]) (N := N__law_menus) (sc := defScope (topS 25)) (by decide +kernel)) (by decide) (fun _ _ _ _ _ => (dg_name 3 ND)) (fun _ _ _ _ _ => dts_nil) (fun _ _ _ _ _ => (de_bin dop_add (de_var 3) (de_tup (dl_cons (de_var 2) dl_nil))))))) (dg_name 1 ND))))
    (dss_one (ds_ret (de_sl (de_new (dn_callB (cn_sorted (uR hr)) G.z_sorted bt_sorted (dl_cons (de_var 1) dl_nil))) (do_some de_int) do_none)))))
abbrev N__law_less : List Str := ["_law_menu", "_law_thing", "_law_one"]
theorem s__law_less : FnScope N__law_less ["_law_menu", "_law_thing"] (defScope (topS 26)) := ⟨rfl, rfl, rfl, by decide +kernel, rfl, by decide +kernel, by decide +kernel⟩
theorem k__law_less (G : Glo mg)  (F : Fun K "_law_less" "_law_less" (topS 26) f fd) (hm : mg "_law_less" = some (.ref f)) : Lk P w K mg base 1 "_law_less" 2 m__law_less :=
  have ND : (N__law_less).Nodup := s__law_less.nd
  lk_fn (N := N__law_less) F hm s__law_less rfl (F.binds (ps := ["_law_menu", "_law_thing"]) fun _ _ _ _ _ _ us hl => match us, hl with | [_, _], _ => rfl) fun cdv A up s H E hgd hr =>
    (dss_one (ds_ret (de_callTy dc_tuple G.z_tuple bt_tuple (dl_cons (de_new (dn_lc (own := [("_law_one", 2)]) rfl ND (di_seq (w := false) (de_var 0)) (blkOk_by (own := [("_law_one", 2)]) (N := N__law_less) (sc := defScope (topS 26)) (by decide +kernel)) (by decide) (fun _ _ _ _ _ => (dg_name 2 ND)) (fun _ _ _ _ _ => (dts_one (dt_cmp (dop_ne (uR hr)) (de_var 2) (de_var 1)))) (fun _ _ _ _ _ => (de_var 2)))) dl_nil))))
abbrev N__law_pick : List Str := ["_law_ranking", "_law_things", "_law_thing"]
theorem s__law_pick : FnScope N__law_pick ["_law_ranking", "_law_things"] (defScope (topS 27)) := ⟨rfl, rfl, rfl, by decide +kernel, rfl, by decide +kernel, by decide +kernel⟩
theorem k__law_pick (G : Glo mg)  (F : Fun K "_law_pick" "_law_pick" (topS 27) f fd) (hm : mg "_law_pick" = some (.ref f)) : Lk P w K mg base 1 "_law_pick" 2 m__law_pick :=
  have ND : (N__law_pick).Nodup := s__law_pick.nd
  lk_fn (N := N__law_pick) F hm s__law_pick rfl (F.binds (ps := ["_law_ranking", "_law_things"]) fun _ _ _ _ _ _ us hl => match us, hl with | [_, _], _ => rfl) fun cdv A up s H E hgd hr =>
    (dss_one (ds_ret (de_ix (de_new (dn_lc (own := [("_law_thing", 2)]) rfl ND (di_seq (w := false) (de_var 0)) (blkOk_by (own := [("_law_thing", 2)]) (N := N__law_pick) (sc := defScope (topS 27)) (by decide +kernel)) (by decide) (fun _ _ _ _ _ => (dg_name 2 ND)) (fun _ _ _ _ _ => (dts_one (dt_cmp (dop_in (uR hr)) (de_var 2) (de_var 1)))) (fun _ _ _ _ _ => (de_var 2)))) de_int)))
abbrev N__law_orders : List Str := ["_law_many", "_law_found", "_law_turn", "_law_longer", "_law_order", "_law_thing"]
theorem s__law_orders : FnScope N__law_orders ["_law_many"] (defScope (topS 28)) := ⟨rfl, rfl, rfl, by decide +kernel, rfl, by decide +kernel, by decide +kernel⟩
theorem k__law_orders (G : Glo mg)  (F : Fun K "_law_orders" "_law_orders" (topS 28) f fd) (hm : mg "_law_orders" = some (.ref f)) : Lk P w K mg base 1 "_law_orders" 1 m__law_orders :=
  have ND : (N__law_orders).Nodup := s__law_orders.nd
  lk_fn (N := N__law_orders) F hm s__law_orders rfl (F.binds (ps := ["_law_many"]) fun _ _ _ _ _ _ us hl => match us, hl with | [_], _ => rfl) fun cdv A up s H E hgd hr =>
    (dss_cons (ds_asg (de_new (dn_lst (dl_cons (de_tup dl_nil) dl_nil))) (dg_name 1 ND))
    (dss_cons (ds_for PassesOwn.never rfl (di_range1 G.z_range (de_var 0)) (dg_name 2 ND) (dss_cons (ds_asg (de_new (dn_lst dl_nil)) (dg_name 3 ND))
    (dss_cons (ds_for PassesOwn.never rfl (di_seq (w := false) (de_var 1)) (dg_name 4 ND) (dss_one (ds_asg (de_bin dop_add (de_var 3) (de_new (dn_lc (own := [("_law_thing", 5)]) rfl ND (di_range1 G.z_range (de_var 0)) (blkOk_by (own := [("_law_thing", 5)]) (N := N__law_orders) (sc := defScope (topS 28)) (by decide +kernel)) (by decide) (fun _ _ _ _ _ => (dg_name 5 ND)) (fun _ _ _ _ _ => (dts_one (dt_cmp (dop_notIn (uR hr)) (de_var 5) (de_var 4)))) (fun _ _ _ _ _ => (de_bin dop_add (de_var 4) (de_tup (dl_cons (de_var 5) dl_nil))))))) (dg_name 3 ND))))
    (dss_one (ds_asg (de_var 3) (dg_name 1 ND))))))
    (dss_one (ds_ret (de_var 1)))))
abbrev N__law_parts : List Str := ["_law_menu", "_law_found", "_law_thing", "_law_part"]
theorem s__law_parts : FnScope N__law_parts ["_law_menu"] (defScope (topS 29)) := ⟨rfl, rfl, rfl, by decide +kernel, rfl, by decide +kernel, by decide +kernel⟩
theorem k__law_parts (G : Glo mg)  (F : Fun K "_law_parts" "_law_parts" (topS 29) f fd) (hm : mg "_law_parts" = some (.ref f)) : Lk P w K mg base 1 "_law_parts" 1 m__law_parts :=
  have ND : (N__law_parts).Nodup := s__law_parts.nd
  lk_fn (N := N__law_parts) F hm s__law_parts rfl (F.binds (ps := ["_law_menu"]) fun _ _ _ _ _ _ us hl => match us, hl with | [_], _ => rfl) fun cdv A up s H E hgd hr =>
    (dss_cons (ds_asg (de_new (dn_lst (dl_cons (de_tup dl_nil) dl_nil))) (dg_name 1 ND))
    (dss_cons (ds_for PassesOwn.never rfl (di_seq (w := false) (de_var 0)) (dg_name 2 ND) (dss_one (ds_asg (de_bin dop_add (de_var 1) (de_new (dn_lc (own := [("_law_part", 3)]) rfl ND (di_seq (w := false) (de_var 1)) (blkOk_by (own := [("_law_part", 3)]) (N := N__law_parts) (sc := defScope (topS 29)) (by decide +kernel)) (by decide) (fun _ _ _ _ _ => (dg_name 3 ND)) (fun _ _ _ _ _ => dts_nil) (fun _ _ _ _ _ => (de_bin dop_add (de_var 3) (de_tup (dl_cons (de_var 2) dl_nil))))))) (dg_name 1 ND))))
    (dss_one (ds_ret (de_sl (de_var 1) (do_some de_int) do_none)))))
abbrev N__law_steady_ones : List Str := ["_law_many", "_law_every", "_law_by_size", "_law_found", "_law_k", "_law_rows", "_law_menu", "_law_longer", "_law_part", "_law_places", "_law_one", "_law_place"]
theorem s__law_steady_ones : FnScope N__law_steady_ones ["_law_many"] (defScope (topS 30)) := ⟨rfl, rfl, rfl, by decide +kernel, rfl, by decide +kernel, by decide +kernel⟩
theorem k__law_steady_ones (G : Glo mg) (L__law_less : Lk P w K mg base 1 "_law_less" 2 m__law_less) (L__law_menus : Lk P w K mg base 1 "_law_menus" 1 m__law_menus) (L__law_parts : Lk P w K mg base 1 "_law_parts" 1 m__law_parts) (F : Fun K "_law_steady_ones" "_law_steady_ones" (topS 30) f fd) (hm : mg "_law_steady_ones" = some (.ref f)) : Lk P w K mg base 2 "_law_steady_ones" 1 m__law_steady_ones :=
  have ND : (N__law_steady_ones).Nodup := s__law_steady_ones.nd
  lk_fn (N := N__law_steady_ones) F hm s__law_steady_ones rfl (F.binds (ps := ["_law_many"]) fun _ _ _ _ _ _ us hl => match us, hl with | [_], _ => rfl) fun cdv A up s H E hgd hr =>
    (dss_cons (ds_asg (de_call L__law_menus (hr.mono (by decide)) hgd (dl_cons (de_var 0) dl_nil) (len_cons len_nil)) (dg_name 1 ND))
    (dss_cons (ds_asg (de_new (dn_callB (cn_sorted (uR hr)) G.z_sorted bt_sorted (dl_cons (de_new (dn_lc (own := [("_law_menu", 6)]) rfl ND (di_seq (w := false) (de_var 1)) (blkOk_by (own := [("_law_menu", 6)]) (N := N__law_steady_ones) (sc := defScope (topS 30)) (by decide +kernel)) (by decide) (fun _ _ _ _ _ => (dg_name 6 ND)) (fun _ _ _ _ _ => dts_nil) (fun _ _ _ _ _ => (de_tup (dl_cons (de_callB dc_len G.z_len bt_len (dl_cons (de_var 6) dl_nil)) (dl_cons (de_var 6) dl_nil)))))) dl_nil))) (dg_name 2 ND))
    (dss_cons (ds_asg (de_new (dn_lst (dl_cons (de_new (dn_lst dl_nil)) dl_nil))) (dg_name 3 ND))
    (dss_cons (ds_for PassesOwn.never rfl (di_range1 G.z_range (de_callB dc_len G.z_len bt_len (dl_cons (de_var 2) dl_nil))) (dg_name 4 ND) (dss_cons (ds_parC 6 7 rfl ND (dp_d (de_ix (de_ix (de_var 2) (de_var 4)) de_int)) (dp_n (dn_lst dl_nil)) (pg_name ND rfl (by first | exact Or.inl rfl | exact Or.inr rfl)) (pg_name ND rfl (by first | exact Or.inl rfl | exact Or.inr rfl)))
    (dss_cons (ds_for PassesOwn.never rfl (di_seq (w := false) (de_var 3)) (dg_name 5 ND) (dss_one (ds_for PassesOwn.never rfl (di_seq (w := false) (de_call L__law_parts (hr.mono (by decide)) hgd (dl_cons (de_var 6) dl_nil) (len_cons len_nil))) (dg_name 8 ND) (dss_cons (ds_lcAsg (own := [("_law_one", 10)]) 9 rfl ND (di_seq (w := false) (de_var 6)) (blkOk_by (own := [("_law_one", 10)]) (N := N__law_steady_ones) (sc := defScope (topS 30)) (by decide +kernel)) (by decide) (fun _ _ _ _ _ => (dg_name 10 ND)) (fun _ _ _ _ _ => (dts_one (dt_cmp (dop_notIn (uR hr)) (de_var 10) (de_var 8)))) (fun _ _ _ _ _ => (de_idxL (uR hr) (de_var 2) (de_tup (dl_cons (de_bin dop_sub (de_callB dc_len G.z_len bt_len (dl_cons (de_var 6) dl_nil)) de_int) (dl_cons (de_call L__law_less (hr.mono (by decide)) hgd (dl_cons (de_var 6) (dl_cons (de_var 10) dl_nil)) (len_cons (len_cons len_nil))) dl_nil))))))
    (dss_one (ds_if (dt_val (de_callB (dc_all rfl) G.z_all bt_all (dl_cons (de_new (dn_lc (own := [("_law_place", 11)]) rfl ND (di_seq (w := false) (de_var 9)) (blkOk_by (own := [("_law_place", 11)]) (N := N__law_steady_ones) (sc := defScope (topS 30)) (by decide +kernel)) (by decide) (fun _ _ _ _ _ => (dg_name 11 ND)) (fun _ _ _ _ _ => dts_nil) (fun _ _ _ _ _ => (de_cmp (dop_eq (uR hr)) (de_ix (de_var 5) (de_var 11)) (de_var 8))))) dl_nil))) (dss_one (ds_app 7 (de_bin dop_add (de_var 5) (de_new (dn_lst (dl_cons (de_var 8) dl_nil)))))) dss_nil))))))
    (dss_one (ds_asg (de_var 7) (dg_name 3 ND))))))
    (dss_one (ds_ret (de_new (dn_lc (own := [("_law_rows", 5)]) rfl ND (di_seq (w := false) (de_var 3)) (blkOk_by (own := [("_law_rows", 5)]) (N := N__law_steady_ones) (sc := defScope (topS 30)) (by decide +kernel)) (by decide) (fun _ _ _ _ _ => (dg_name 5 ND)) (fun _ _ _ _ _ => dts_nil) (fun _ _ _ _ _ => (de_new (dn_lc (own := [("_law_menu", 6)]) rfl ND (di_seq (w := false) (de_var 1)) (blkOk_by (own := [("_law_menu", 6)]) (by rfl)) (by decide) (fun _ _ _ _ _ => (dg_name 6 ND)) (fun _ _ _ _ _ => dts_nil) (fun _ _ _ _ _ => (de_ix (de_var 5) (de_idxL (uR hr) (de_var 2) (de_tup (dl_cons (de_callB dc_len G.z_len bt_len (dl_cons (de_var 6) dl_nil)) (dl_cons (de_var 6) dl_nil)))))))))))))))))
abbrev N__law_any_record : List Str := ["_law_pen_here", "_law_many", "_law_entries", "_law_menu", "_law_way"]
theorem s__law_any_record : FnScope N__law_any_record ["_law_pen_here", "_law_many"] (defScope (topS 31)) := ⟨rfl, rfl, rfl, by decide +kernel, rfl, by decide +kernel, by decide +kernel⟩
theorem k__law_any_record (G : Glo mg) (L__law_draw : Lk P w K mg base 1 "_law_draw" 2 m__law_draw) (L__law_menus : Lk P w K mg base 1 "_law_menus" 1 m__law_menus) (F : Fun K "_law_any_record" "_law_any_record" (topS 31) f fd) (hm : mg "_law_any_record" = some (.ref f)) : Lk P w K mg base 2 "_law_any_record" 2 m__law_any_record :=
  have ND : (N__law_any_record).Nodup := s__law_any_record.nd
  lk_fn (N := N__law_any_record) F hm s__law_any_record rfl (F.binds (ps := ["_law_pen_here", "_law_many"]) fun _ _ _ _ _ _ us hl => match us, hl with | [_, _], _ => rfl) fun cdv A up s H E hgd hr =>
    (dss_cons (ds_own 2 (dn_lst dl_nil) ND)
    (dss_cons (ds_for PassesOwn.never rfl (di_seq (w := false) (de_call L__law_menus (hr.mono (by decide)) hgd (dl_cons (de_var 1) dl_nil) (len_cons len_nil))) (dg_name 3 ND) (dss_cons (ds_asg (de_call L__law_draw (hr.mono (by decide)) hgd (dl_cons (de_var 0) (dl_cons (de_bin dop_add (de_callB dc_len G.z_len bt_len (dl_cons (de_var 3) dl_nil)) de_int) dl_nil)) (len_cons (len_cons len_nil))) (dg_name 4 ND))
    (dss_one (ds_if (dt_cmp dop_gt (de_var 4) de_int) (dss_one (ds_app 2 (de_tup (dl_cons (de_var 3) (dl_cons (de_ix (de_var 3) (de_bin dop_sub (de_var 4) de_int)) dl_nil))))) dss_nil))))
    (dss_one (ds_ret (de_tup (dl_cons (de_var 1) (dl_cons (de_callTy dc_tuple G.z_tuple bt_tuple (dl_cons (de_var 2) dl_nil)) dl_nil)))))))
abbrev N_law : List Str := ["_law_script", "_law_k", "_law_pen_here", "_law_many", "_law_turn", "_law_steady", "_law_every", "_law_places", "_law_picks", "_law_ranking", "_law_record", "_law_due", "_law_entry", "_law_rows", "_law_place"]
theorem s_law : FnScope N_law ["_law_script"] (defScope (topS 32)) := ⟨rfl, rfl, rfl, by decide +kernel, rfl, by decide +kernel, by decide +kernel⟩
theorem g_law (G : Glo mg) (L__law_any_record : Lk P w K mg base 2 "_law_any_record" 2 m__law_any_record) (L__law_cell_at : Lk P w K mg base 1 "_law_cell_at" 2 m__law_cell_at) (L__law_draw : Lk P w K mg base 1 "_law_draw" 2 m__law_draw) (L__law_menus : Lk P w K mg base 1 "_law_menus" 1 m__law_menus) (L__law_orders : Lk P w K mg base 1 "_law_orders" 1 m__law_orders) (L__law_pen : Lk P w K mg base 1 "_law_pen" 1 m__law_pen) (L__law_pick : Lk P w K mg base 1 "_law_pick" 2 m__law_pick) (L__law_steady_ones : Lk P w K mg base 2 "_law_steady_ones" 1 m__law_steady_ones) (L_rankings : LkG P w K mg base 7 "rankings" 1 m_rankings) (F : Fun K "law" "law" (topS 32) f fd) : FnG P w K mg base 11 f fd ["_law_script"] (spD K 1 m_law) :=
  have ND : (N_law).Nodup := s_law.nd
  fg_fn (N := N_law) F s_law rfl fun cdv A up s H E hgd hr =>
    (dss_cons (ds_for PassesOwn.never rfl (di_range1 G.z_range (de_callB (dc_max2 rfl) G.z_max bt_max (dl_cons de_int (dl_cons (de_callB (dc_min2 rfl) G.z_min bt_min (dl_cons (de_callB dc_len G.z_len bt_len (dl_cons (de_var 0) dl_nil)) (dl_cons de_int dl_nil))) dl_nil)))) (dg_name 1 ND) (dss_cons (ds_asg (de_call L__law_pen (hr.mono (by decide)) hgd (dl_cons (de_call L__law_cell_at (hr.mono (by decide)) hgd (dl_cons (de_var 0) (dl_cons (de_var 1) dl_nil)) (len_cons (len_cons len_nil))) dl_nil) (len_cons len_nil)) (dg_name 2 ND))
    (dss_cons (ds_asg (de_bin dop_sub de_int (de_bin dop_mul (de_bin dop_fdiv (de_call L__law_draw (hr.mono (by decide)) hgd (dl_cons (de_var 2) (dl_cons de_int dl_nil)) (len_cons (len_cons len_nil))) de_int) (de_call L__law_draw (hr.mono (by decide)) hgd (dl_cons (de_var 2) (dl_cons de_int dl_nil)) (len_cons (len_cons len_nil))))) (dg_name 3 ND))
    (dss_cons (ds_asg (de_tup (dl_cons (de_call L__law_steady_ones (hr.mono (by decide)) hgd (dl_cons (de_var 3) dl_nil) (len_cons len_nil)) (dl_cons (de_call L__law_menus (hr.mono (by decide)) hgd (dl_cons (de_var 3) dl_nil) (len_cons len_nil)) dl_nil))) (dg_tup rfl (dgs_cons (dg_name 5 ND) (dgs_cons (dg_name 6 ND) dgs_nil))))
    (dss_one (ds_for PassesOwn.never rfl (di_range1 G.z_range de_int) (dg_name 4 ND) (dss_cons (ds_par2 10 11 rfl ND (dp_d (de_call L__law_any_record (hr.mono (by decide)) hgd (dl_cons (de_var 2) (dl_cons (de_var 3) dl_nil)) (len_cons (len_cons len_nil)))) (dp_n (dn_lst dl_nil)))
    (dss_cons (ds_asg (de_new (dn_lc (own := [("_law_entry", 12)]) rfl ND (di_seq (w := false) (de_ix (de_var 10) de_int)) (blkOk_by (own := [("_law_entry", 12)]) (N := N_law) (sc := defScope (topS 32)) (by decide +kernel)) (by decide) (fun _ _ _ _ _ => (dg_name 12 ND)) (fun _ _ _ _ _ => dts_nil) (fun _ _ _ _ _ => (de_idxL (uR hr) (de_var 6) (de_ix (de_var 12) de_int))))) (dg_name 7 ND))
    (dss_cons (ds_asg (de_new (dn_lc (own := [("_law_entry", 12)]) rfl ND (di_seq (w := false) (de_ix (de_var 10) de_int)) (blkOk_by (own := [("_law_entry", 12)]) (N := N_law) (sc := defScope (topS 32)) (by decide +kernel)) (by decide) (fun _ _ _ _ _ => (dg_name 12 ND)) (fun _ _ _ _ _ => dts_nil) (fun _ _ _ _ _ => (de_ix (de_var 12) de_int)))) (dg_name 8 ND))
    (dss_cons (ds_for PassesOwn.never rfl (di_seq (w := false) (de_call L__law_orders (hr.mono (by decide)) hgd (dl_cons (de_var 3) dl_nil) (len_cons len_nil))) (dg_name 9 ND) (dss_one (ds_if (dt_val (de_callB (dc_any rfl) G.z_any bt_any (dl_cons (de_new (dn_lc (own := [("_law_rows", 13)]) rfl ND (di_seq (w := false) (de_var 5)) (blkOk_by (own := [("_law_rows", 13)]) (N := N_law) (sc := defScope (topS 32)) (by decide +kernel)) (by decide) (fun _ _ _ _ _ => (dg_name 13 ND)) (fun _ _ _ _ _ => dts_nil) (fun _ _ _ _ _ => (de_cmp (dop_eq (uR hr)) (de_new (dn_lc (own := [("_law_place", 14)]) rfl ND (di_seq (w := false) (de_var 7)) (blkOk_by (own := [("_law_place", 14)]) (by rfl)) (by decide) (fun _ _ _ _ _ => (dg_name 14 ND)) (fun _ _ _ _ _ => dts_nil) (fun _ _ _ _ _ => (de_call L__law_pick (hr.mono (by decide)) hgd (dl_cons (de_var 9) (dl_cons (de_ix (de_var 13) (de_var 14)) dl_nil)) (len_cons (len_cons len_nil)))))) (de_var 8))))) dl_nil))) (dss_one (ds_app 11 (de_var 9))) dss_nil)))
    (dss_one (ds_if (dt_cmp (dop_ne (uR hr)) (de_new (dn_listG (pgn_call L_rankings (hr.mono (by decide)) hgd (dl_cons (de_var 10) dl_nil)) (hr.mono (by decide)) hgd G.z_list)) (de_var 11)) (dss_one (ds_ret de_bl)) dss_nil))))))))))))
    (dss_one (ds_ret de_bl)))
end
theorem all_mk {l : PySem.W.OpenLaw} {w : World} {K : PySem.W.Frag} {h : Heap} {mg : Str → Option Value} {fa : Addr} (X : K.In h) (G : h.Ns mainGlobals mg) (hfa : mg "law" = some (.ref fa))
    {f0 : Addr} {od0 an0 : Option Addr} {sl0 : Array (Option Value)} {oc0 kV0 dc0 pm0 cd0 ct0 : Value}
    {f1 : Addr} {od1 an1 : Option Addr} {sl1 : Array (Option Value)} {oc1 kV1 dc1 pm1 cd1 ct1 : Value}
    {f2 : Addr} {od2 an2 : Option Addr} {sl2 : Array (Option Value)} {oc2 kV2 dc2 pm2 cd2 ct2 : Value}
    {f3 : Addr} {od3 an3 : Option Addr} {sl3 : Array (Option Value)} {oc3 kV3 dc3 pm3 cd3 ct3 : Value}
    {f4 : Addr} {od4 an4 : Option Addr} {sl4 : Array (Option Value)} {oc4 kV4 dc4 pm4 cd4 ct4 : Value}
    {f5 : Addr} {od5 an5 : Option Addr} {sl5 : Array (Option Value)} {oc5 kV5 dc5 pm5 cd5 ct5 : Value}
    {f6 : Addr} {od6 an6 : Option Addr} {sl6 : Array (Option Value)} {oc6 kV6 dc6 pm6 cd6 ct6 : Value}
    {f7 : Addr} {od7 an7 : Option Addr} {sl7 : Array (Option Value)} {oc7 kV7 dc7 pm7 cd7 ct7 : Value}
    {f8 : Addr} {od8 an8 : Option Addr} {sl8 : Array (Option Value)} {oc8 kV8 dc8 pm8 cd8 ct8 : Value}
    {f9 : Addr} {od9 an9 : Option Addr} {sl9 : Array (Option Value)} {oc9 kV9 dc9 pm9 cd9 ct9 : Value}
    {f10 : Addr} {od10 an10 : Option Addr} {sl10 : Array (Option Value)} {oc10 kV10 dc10 pm10 cd10 ct10 : Value}
    {f11 : Addr} {od11 an11 : Option Addr} {sl11 : Array (Option Value)} {oc11 kV11 dc11 pm11 cd11 ct11 : Value}
    {f12 : Addr} {od12 an12 : Option Addr} {sl12 : Array (Option Value)} {oc12 kV12 dc12 pm12 cd12 ct12 : Value}
    {f13 : Addr} {od13 an13 : Option Addr} {sl13 : Array (Option Value)} {oc13 kV13 dc13 pm13 cd13 ct13 : Value}
    {f14 : Addr} {od14 an14 : Option Addr} {sl14 : Array (Option Value)} {oc14 kV14 dc14 pm14 cd14 ct14 : Value}
    {f15 : Addr} {od15 an15 : Option Addr} {sl15 : Array (Option Value)} {oc15 kV15 dc15 pm15 cd15 ct15 : Value}
    {f16 : Addr} {od16 an16 : Option Addr} {sl16 : Array (Option Value)} {oc16 kV16 dc16 pm16 cd16 ct16 : Value}
    {f17 : Addr} {od17 an17 : Option Addr} {sl17 : Array (Option Value)} {oc17 kV17 dc17 pm17 cd17 ct17 : Value}
    {f18 : Addr} {od18 an18 : Option Addr} {sl18 : Array (Option Value)} {oc18 kV18 dc18 pm18 cd18 ct18 : Value}
    {f19 : Addr} {od19 an19 : Option Addr} {sl19 : Array (Option Value)} {oc19 kV19 dc19 pm19 cd19 ct19 : Value}
    {f20 : Addr} {od20 an20 : Option Addr} {sl20 : Array (Option Value)} {oc20 kV20 dc20 pm20 cd20 ct20 : Value}
    {f21 : Addr} {od21 an21 : Option Addr} {sl21 : Array (Option Value)} {oc21 kV21 dc21 pm21 cd21 ct21 : Value}
    {f22 : Addr} {od22 an22 : Option Addr} {sl22 : Array (Option Value)} {oc22 kV22 dc22 pm22 cd22 ct22 : Value}
    {f23 : Addr} {od23 an23 : Option Addr} {sl23 : Array (Option Value)} {oc23 kV23 dc23 pm23 cd23 ct23 : Value}
    {f24 : Addr} {od24 an24 : Option Addr} {sl24 : Array (Option Value)} {oc24 kV24 dc24 pm24 cd24 ct24 : Value}
    {f25 : Addr} {od25 an25 : Option Addr} {sl25 : Array (Option Value)} {oc25 kV25 dc25 pm25 cd25 ct25 : Value}
    (a0 : PySem.W.nsIn K mainGlobals "is_whole" = some (some (.ref f0))) (l0 : K.lookup f0 = some ⟨oc0, od0, .func (PySem.W.fnOf "is_whole" "is_whole" (defArgs (topS 5)) (defBody (topS 5)) (defScope (topS 5)) .none kV0 dc0 pm0 an0 cd0 ct0), sl0⟩) (c0 : PySem.W.codeIn K cd0 "is_whole" = true) (k0 : PySem.W.keepIn K (.ref f0) = true)
    (a1 : PySem.W.nsIn K mainGlobals "is_between" = some (some (.ref f1))) (l1 : K.lookup f1 = some ⟨oc1, od1, .func (PySem.W.fnOf "is_between" "is_between" (defArgs (topS 6)) (defBody (topS 6)) (defScope (topS 6)) .none kV1 dc1 pm1 an1 cd1 ct1), sl1⟩) (c1 : PySem.W.codeIn K cd1 "is_between" = true) (k1 : PySem.W.keepIn K (.ref f1) = true)
    (a2 : PySem.W.nsIn K mainGlobals "is_row" = some (some (.ref f2))) (l2 : K.lookup f2 = some ⟨oc2, od2, .func (PySem.W.fnOf "is_row" "is_row" (defArgs (topS 7)) (defBody (topS 7)) (defScope (topS 7)) .none kV2 dc2 pm2 an2 cd2 ct2), sl2⟩) (c2 : PySem.W.codeIn K cd2 "is_row" = true) (k2 : PySem.W.keepIn K (.ref f2) = true)
    (a3 : PySem.W.nsIn K mainGlobals "rises" = some (some (.ref f3))) (l3 : K.lookup f3 = some ⟨oc3, od3, .func (PySem.W.fnOf "rises" "rises" (defArgs (topS 8)) (defBody (topS 8)) (defScope (topS 8)) .none kV3 dc3 pm3 an3 cd3 ct3), sl3⟩) (c3 : PySem.W.codeIn K cd3 "rises" = true) (k3 : PySem.W.keepIn K (.ref f3) = true)
    (a4 : PySem.W.nsIn K mainGlobals "is_menu" = some (some (.ref f4))) (l4 : K.lookup f4 = some ⟨oc4, od4, .func (PySem.W.fnOf "is_menu" "is_menu" (defArgs (topS 9)) (defBody (topS 9)) (defScope (topS 9)) .none kV4 dc4 pm4 an4 cd4 ct4), sl4⟩) (c4 : PySem.W.codeIn K cd4 "is_menu" = true) (k4 : PySem.W.keepIn K (.ref f4) = true)
    (a5 : PySem.W.nsIn K mainGlobals "is_entry" = some (some (.ref f5))) (l5 : K.lookup f5 = some ⟨oc5, od5, .func (PySem.W.fnOf "is_entry" "is_entry" (defArgs (topS 10)) (defBody (topS 10)) (defScope (topS 10)) .none kV5 dc5 pm5 an5 cd5 ct5), sl5⟩) (c5 : PySem.W.codeIn K cd5 "is_entry" = true) (k5 : PySem.W.keepIn K (.ref f5) = true)
    (a6 : PySem.W.nsIn K mainGlobals "is_record" = some (some (.ref f6))) (l6 : K.lookup f6 = some ⟨oc6, od6, .func (PySem.W.fnOf "is_record" "is_record" (defArgs (topS 11)) (defBody (topS 11)) (defScope (topS 11)) .none kV6 dc6 pm6 an6 cd6 ct6), sl6⟩) (c6 : PySem.W.codeIn K cd6 "is_record" = true) (k6 : PySem.W.keepIn K (.ref f6) = true)
    (a7 : PySem.W.nsIn K mainGlobals "need_record" = some (some (.ref f7))) (l7 : K.lookup f7 = some ⟨oc7, od7, .func (PySem.W.fnOf "need_record" "need_record" (defArgs (topS 12)) (defBody (topS 12)) (defScope (topS 12)) .none kV7 dc7 pm7 an7 cd7 ct7), sl7⟩) (c7 : PySem.W.codeIn K cd7 "need_record" = true) (k7 : PySem.W.keepIn K (.ref f7) = true)
    (a8 : PySem.W.nsIn K mainGlobals "all_rankings" = some (some (.ref f8))) (l8 : K.lookup f8 = some ⟨oc8, od8, .func (PySem.W.fnOf "all_rankings" "all_rankings" (defArgs (topS 14)) (defBody (topS 14)) (defScope (topS 14)) .none kV8 dc8 pm8 an8 cd8 ct8), sl8⟩) (c8 : PySem.W.codeIn K cd8 "all_rankings" = true) (k8 : PySem.W.keepIn K (.ref f8) = true)
    (a9 : PySem.W.nsIn K mainGlobals "pairs_of" = some (some (.ref f9))) (l9 : K.lookup f9 = some ⟨oc9, od9, .func (PySem.W.fnOf "pairs_of" "pairs_of" (defArgs (topS 15)) (defBody (topS 15)) (defScope (topS 15)) .none kV9 dc9 pm9 an9 cd9 ct9), sl9⟩) (c9 : PySem.W.codeIn K cd9 "pairs_of" = true) (k9 : PySem.W.keepIn K (.ref f9) = true)
    (a10 : PySem.W.nsIn K mainGlobals "is_clash" = some (some (.ref f10))) (l10 : K.lookup f10 = some ⟨oc10, od10, .func (PySem.W.fnOf "is_clash" "is_clash" (defArgs (topS 16)) (defBody (topS 16)) (defScope (topS 16)) .none kV10 dc10 pm10 an10 cd10 ct10), sl10⟩) (c10 : PySem.W.codeIn K cd10 "is_clash" = true) (k10 : PySem.W.keepIn K (.ref f10) = true)
    (a11 : PySem.W.nsIn K mainGlobals "places_in" = some (some (.ref f11))) (l11 : K.lookup f11 = some ⟨oc11, od11, .func (PySem.W.fnOf "places_in" "places_in" (defArgs (topS 17)) (defBody (topS 17)) (defScope (topS 17)) .none kV11 dc11 pm11 an11 cd11 ct11), sl11⟩) (c11 : PySem.W.codeIn K cd11 "places_in" = true) (k11 : PySem.W.keepIn K (.ref f11) = true)
    (a12 : PySem.W.nsIn K mainGlobals "clashes_of" = some (some (.ref f12))) (l12 : K.lookup f12 = some ⟨oc12, od12, .func (PySem.W.fnOf "clashes_of" "clashes_of" (defArgs (topS 18)) (defBody (topS 18)) (defScope (topS 18)) .none kV12 dc12 pm12 an12 cd12 ct12), sl12⟩) (c12 : PySem.W.codeIn K cd12 "clashes_of" = true) (k12 : PySem.W.keepIn K (.ref f12) = true)
    (a13 : PySem.W.nsIn K mainGlobals "rankings_by" = some (some (.ref f13))) (l13 : K.lookup f13 = some ⟨oc13, od13, .func (PySem.W.fnOf "rankings_by" "rankings_by" (defArgs (topS 19)) (defBody (topS 19)) (defScope (topS 19)) .none kV13 dc13 pm13 an13 cd13 ct13), sl13⟩) (c13 : PySem.W.codeIn K cd13 "rankings_by" = true) (k13 : PySem.W.keepIn K (.ref f13) = true)
    (a14 : PySem.W.nsIn K mainGlobals "rankings" = some (some (.ref f14))) (l14 : K.lookup f14 = some ⟨oc14, od14, .func (PySem.W.fnOf "rankings" "rankings" (defArgs (topS 20)) (defBody (topS 20)) (defScope (topS 20)) .none kV14 dc14 pm14 an14 cd14 ct14), sl14⟩) (c14 : PySem.W.codeIn K cd14 "rankings" = true) (k14 : PySem.W.keepIn K (.ref f14) = true)
    (a15 : PySem.W.nsIn K mainGlobals "_law_cell_at" = some (some (.ref f15))) (l15 : K.lookup f15 = some ⟨oc15, od15, .func (PySem.W.fnOf "_law_cell_at" "_law_cell_at" (defArgs (topS 22)) (defBody (topS 22)) (defScope (topS 22)) .none kV15 dc15 pm15 an15 cd15 ct15), sl15⟩) (c15 : PySem.W.codeIn K cd15 "_law_cell_at" = true) (k15 : PySem.W.keepIn K (.ref f15) = true)
    (a16 : PySem.W.nsIn K mainGlobals "_law_pen" = some (some (.ref f16))) (l16 : K.lookup f16 = some ⟨oc16, od16, .func (PySem.W.fnOf "_law_pen" "_law_pen" (defArgs (topS 23)) (defBody (topS 23)) (defScope (topS 23)) .none kV16 dc16 pm16 an16 cd16 ct16), sl16⟩) (c16 : PySem.W.codeIn K cd16 "_law_pen" = true) (k16 : PySem.W.keepIn K (.ref f16) = true)
    (a17 : PySem.W.nsIn K mainGlobals "_law_draw" = some (some (.ref f17))) (l17 : K.lookup f17 = some ⟨oc17, od17, .func (PySem.W.fnOf "_law_draw" "_law_draw" (defArgs (topS 24)) (defBody (topS 24)) (defScope (topS 24)) .none kV17 dc17 pm17 an17 cd17 ct17), sl17⟩) (c17 : PySem.W.codeIn K cd17 "_law_draw" = true) (k17 : PySem.W.keepIn K (.ref f17) = true)
    (a18 : PySem.W.nsIn K mainGlobals "_law_menus" = some (some (.ref f18))) (l18 : K.lookup f18 = some ⟨oc18, od18, .func (PySem.W.fnOf "_law_menus" "_law_menus" (defArgs (topS 25)) (defBody (topS 25)) (defScope (topS 25)) .none kV18 dc18 pm18 an18 cd18 ct18), sl18⟩) (c18 : PySem.W.codeIn K cd18 "_law_menus" = true) (k18 : PySem.W.keepIn K (.ref f18) = true)
    (a19 : PySem.W.nsIn K mainGlobals "_law_less" = some (some (.ref f19))) (l19 : K.lookup f19 = some ⟨oc19, od19, .func (PySem.W.fnOf "_law_less" "_law_less" (defArgs (topS 26)) (defBody (topS 26)) (defScope (topS 26)) .none kV19 dc19 pm19 an19 cd19 ct19), sl19⟩) (c19 : PySem.W.codeIn K cd19 "_law_less" = true) (k19 : PySem.W.keepIn K (.ref f19) = true)
    (a20 : PySem.W.nsIn K mainGlobals "_law_pick" = some (some (.ref f20))) (l20 : K.lookup f20 = some ⟨oc20, od20, .func (PySem.W.fnOf "_law_pick" "_law_pick" (defArgs (topS 27)) (defBody (topS 27)) (defScope (topS 27)) .none kV20 dc20 pm20 an20 cd20 ct20), sl20⟩) (c20 : PySem.W.codeIn K cd20 "_law_pick" = true) (k20 : PySem.W.keepIn K (.ref f20) = true)
    (a21 : PySem.W.nsIn K mainGlobals "_law_orders" = some (some (.ref f21))) (l21 : K.lookup f21 = some ⟨oc21, od21, .func (PySem.W.fnOf "_law_orders" "_law_orders" (defArgs (topS 28)) (defBody (topS 28)) (defScope (topS 28)) .none kV21 dc21 pm21 an21 cd21 ct21), sl21⟩) (c21 : PySem.W.codeIn K cd21 "_law_orders" = true) (k21 : PySem.W.keepIn K (.ref f21) = true)
    (a22 : PySem.W.nsIn K mainGlobals "_law_parts" = some (some (.ref f22))) (l22 : K.lookup f22 = some ⟨oc22, od22, .func (PySem.W.fnOf "_law_parts" "_law_parts" (defArgs (topS 29)) (defBody (topS 29)) (defScope (topS 29)) .none kV22 dc22 pm22 an22 cd22 ct22), sl22⟩) (c22 : PySem.W.codeIn K cd22 "_law_parts" = true) (k22 : PySem.W.keepIn K (.ref f22) = true)
    (a23 : PySem.W.nsIn K mainGlobals "_law_steady_ones" = some (some (.ref f23))) (l23 : K.lookup f23 = some ⟨oc23, od23, .func (PySem.W.fnOf "_law_steady_ones" "_law_steady_ones" (defArgs (topS 30)) (defBody (topS 30)) (defScope (topS 30)) .none kV23 dc23 pm23 an23 cd23 ct23), sl23⟩) (c23 : PySem.W.codeIn K cd23 "_law_steady_ones" = true) (k23 : PySem.W.keepIn K (.ref f23) = true)
    (a24 : PySem.W.nsIn K mainGlobals "_law_any_record" = some (some (.ref f24))) (l24 : K.lookup f24 = some ⟨oc24, od24, .func (PySem.W.fnOf "_law_any_record" "_law_any_record" (defArgs (topS 31)) (defBody (topS 31)) (defScope (topS 31)) .none kV24 dc24 pm24 an24 cd24 ct24), sl24⟩) (c24 : PySem.W.codeIn K cd24 "_law_any_record" = true) (k24 : PySem.W.keepIn K (.ref f24) = true)
    (a25 : PySem.W.nsIn K mainGlobals "law" = some (some (.ref f25))) (l25 : K.lookup f25 = some ⟨oc25, od25, .func (PySem.W.fnOf "law" "law" (defArgs (topS 32)) (defBody (topS 32)) (defScope (topS 32)) .none kV25 dc25 pm25 an25 cd25 ct25), sl25⟩) (c25 : PySem.W.codeIn K cd25 "law" = true) (k25 : PySem.W.keepIn K (.ref f25) = true)
    (z_all : PySem.W.nsIn K mainGlobals "all" = some none)
    (z_any : PySem.W.nsIn K mainGlobals "any" = some none)
    (z_bool : PySem.W.nsIn K mainGlobals "bool" = some none)
    (z_enumerate : PySem.W.nsIn K mainGlobals "enumerate" = some none)
    (z_int : PySem.W.nsIn K mainGlobals "int" = some none)
    (z_isinstance : PySem.W.nsIn K mainGlobals "isinstance" = some none)
    (z_len : PySem.W.nsIn K mainGlobals "len" = some none)
    (z_list : PySem.W.nsIn K mainGlobals "list" = some none)
    (z_max : PySem.W.nsIn K mainGlobals "max" = some none)
    (z_min : PySem.W.nsIn K mainGlobals "min" = some none)
    (z_range : PySem.W.nsIn K mainGlobals "range" = some none)
    (z_sorted : PySem.W.nsIn K mainGlobals "sorted" = some none)
    (z_tuple : PySem.W.nsIn K mainGlobals "tuple" = some none)
    (z_zip : PySem.W.nsIn K mainGlobals "zip" = some none)
    {t_MOST_THINGS : Tok} (c_MOST_THINGS : PySem.W.nsIn K mainGlobals "MOST_THINGS" = some (some (.int 5 t_MOST_THINGS)))
    : ∃ fd : FuncData, (∀ (s : Shared) (v : Value), BindsTo s fd ⟨[v], []⟩ [("_law_script", v)]) ∧ ∀ base : Heap, K.In base → base.Ns mainGlobals mg → FnG l.prog w K mg base 11 fa fd ["_law_script"] (spD K 1 m_law) := by
  have e := hfa.symm.trans (PySem.W.mg_of X G a25)
  cases e
  have gl : Glo mg := ⟨PySem.W.mg_none_of X G z_all, PySem.W.mg_none_of X G z_any, PySem.W.mg_none_of X G z_bool, PySem.W.mg_none_of X G z_enumerate, PySem.W.mg_none_of X G z_int, PySem.W.mg_none_of X G z_isinstance, PySem.W.mg_none_of X G z_len, PySem.W.mg_none_of X G z_list, PySem.W.mg_none_of X G z_max, PySem.W.mg_none_of X G z_min, PySem.W.mg_none_of X G z_range, PySem.W.mg_none_of X G z_sorted, PySem.W.mg_none_of X G z_tuple, PySem.W.mg_none_of X G z_zip, ⟨_, PySem.W.mg_of X G c_MOST_THINGS⟩⟩
  have F0 := fun_mk (st := topS 5) l0 c0 k0
  have F1 := fun_mk (st := topS 6) l1 c1 k1
  have F2 := fun_mk (st := topS 7) l2 c2 k2
  have F3 := fun_mk (st := topS 8) l3 c3 k3
  have F4 := fun_mk (st := topS 9) l4 c4 k4
  have F5 := fun_mk (st := topS 10) l5 c5 k5
  have F6 := fun_mk (st := topS 11) l6 c6 k6
  have F7 := fun_mk (st := topS 12) l7 c7 k7
  have F8 := fun_mk (st := topS 14) l8 c8 k8
  have F9 := fun_mk (st := topS 15) l9 c9 k9
  have F10 := fun_mk (st := topS 16) l10 c10 k10
  have F11 := fun_mk (st := topS 17) l11 c11 k11
  have F12 := fun_mk (st := topS 18) l12 c12 k12
  have F13 := fun_mk (st := topS 19) l13 c13 k13
  have F14 := fun_mk (st := topS 20) l14 c14 k14
  have F15 := fun_mk (st := topS 22) l15 c15 k15
  have F16 := fun_mk (st := topS 23) l16 c16 k16
  have F17 := fun_mk (st := topS 24) l17 c17 k17
  have F18 := fun_mk (st := topS 25) l18 c18 k18
  have F19 := fun_mk (st := topS 26) l19 c19 k19
  have F20 := fun_mk (st := topS 27) l20 c20 k20
  have F21 := fun_mk (st := topS 28) l21 c21 k21
  have F22 := fun_mk (st := topS 29) l22 c22 k22
  have F23 := fun_mk (st := topS 30) l23 c23 k23
  have F24 := fun_mk (st := topS 31) l24 c24 k24
  have F25 := fun_mk (st := topS 32) l25 c25 k25
  refine ⟨PySem.W.fnOf "law" "law" (defArgs (topS 32)) (defBody (topS 32)) (defScope (topS 32)) .none kV25 dc25 pm25 an25 cd25 ct25, fun s v => .of_eq rfl, fun base _ _ => ?_⟩
  have K_is_whole : Lk l.prog w K mg base 1 "is_whole" 1 m_is_whole := k_is_whole gl  F0 (PySem.W.mg_of X G a0)
  have K_is_row : Lk l.prog w K mg base 1 "is_row" 3 m_is_row := k_is_row gl  F2 (PySem.W.mg_of X G a2)
  have K_rises : Lk l.prog w K mg base 1 "rises" 1 m_rises := k_rises gl  F3 (PySem.W.mg_of X G a3)
  have K_all_rankings : Lk l.prog w K mg base 1 "all_rankings" 1 m_all_rankings := k_all_rankings gl  F8 (PySem.W.mg_of X G a8)
  have K_pairs_of : Lk l.prog w K mg base 1 "pairs_of" 1 m_pairs_of := k_pairs_of gl  F9 (PySem.W.mg_of X G a9)
  have K_is_clash : Lk l.prog w K mg base 1 "is_clash" 2 m_is_clash := k_is_clash gl  F10 (PySem.W.mg_of X G a10)
  have K_places_in : Lk l.prog w K mg base 1 "places_in" 1 m_places_in := k_places_in gl  F11 (PySem.W.mg_of X G a11)
  have K__law_cell_at : Lk l.prog w K mg base 1 "_law_cell_at" 2 m__law_cell_at := k__law_cell_at gl  F15 (PySem.W.mg_of X G a15)
  have K__law_pen : Lk l.prog w K mg base 1 "_law_pen" 1 m__law_pen := k__law_pen gl  F16 (PySem.W.mg_of X G a16)
  have K__law_draw : Lk l.prog w K mg base 1 "_law_draw" 2 m__law_draw := k__law_draw gl  F17 (PySem.W.mg_of X G a17)
  have K__law_menus : Lk l.prog w K mg base 1 "_law_menus" 1 m__law_menus := k__law_menus gl  F18 (PySem.W.mg_of X G a18)
  have K__law_less : Lk l.prog w K mg base 1 "_law_less" 2 m__law_less := k__law_less gl  F19 (PySem.W.mg_of X G a19)
  have K__law_pick : Lk l.prog w K mg base 1 "_law_pick" 2 m__law_pick := k__law_pick gl  F20 (PySem.W.mg_of X G a20)
  have K__law_orders : Lk l.prog w K mg base 1 "_law_orders" 1 m__law_orders := k__law_orders gl  F21 (PySem.W.mg_of X G a21)
  have K__law_parts : Lk l.prog w K mg base 1 "_law_parts" 1 m__law_parts := k__law_parts gl  F22 (PySem.W.mg_of X G a22)
  have K_is_between : Lk l.prog w K mg base 2 "is_between" 3 m_is_between := k_is_between gl K_is_whole F1 (PySem.W.mg_of X G a1)
  have K_clashes_of : Lk l.prog w K mg base 2 "clashes_of" 2 m_clashes_of := k_clashes_of gl K_is_clash K_places_in F12 (PySem.W.mg_of X G a12)
  have K__law_steady_ones : Lk l.prog w K mg base 2 "_law_steady_ones" 1 m__law_steady_ones := k__law_steady_ones gl K__law_less K__law_menus K__law_parts F23 (PySem.W.mg_of X G a23)
  have K__law_any_record : Lk l.prog w K mg base 2 "_law_any_record" 2 m__law_any_record := k__law_any_record gl K__law_draw K__law_menus F24 (PySem.W.mg_of X G a24)
  have K_is_menu : Lk l.prog w K mg base 3 "is_menu" 2 m_is_menu := k_is_menu gl K_is_between K_is_row K_rises F4 (PySem.W.mg_of X G a4)
  have K_rankings_by : LkG l.prog w K mg base 3 "rankings_by" 0 m_rankings_by := k_rankings_by gl K_all_rankings K_clashes_of K_pairs_of F13 (PySem.W.mg_of X G a13)
  have K_is_entry : Lk l.prog w K mg base 4 "is_entry" 2 m_is_entry := k_is_entry gl K_is_menu K_is_row K_is_whole F5 (PySem.W.mg_of X G a5)
  have K_is_record : Lk l.prog w K mg base 5 "is_record" 1 m_is_record := k_is_record gl K_is_between K_is_entry K_is_row K_rises F6 (PySem.W.mg_of X G a6)
  have K_need_record : Lk l.prog w K mg base 6 "need_record" 1 m_need_record := k_need_record gl K_is_record F7 (PySem.W.mg_of X G a7)
  have K_rankings : LkG l.prog w K mg base 7 "rankings" 1 m_rankings := k_rankings gl K_need_record K_rankings_by F14 (PySem.W.mg_of X G a14)
  exact g_law gl K__law_any_record K__law_cell_at K__law_draw K__law_menus K__law_orders K__law_pen K__law_pick K__law_steady_ones K_rankings F25
end DL
open PySem PySem.W PyProof.Rows
set_option maxHeartbeats 0 in
theorem PySem.Challenge.cw_overlook_k15_whole_three_things_holds : PySem.Challenge.rw_overlook_k15_whole_three_things.Holds := by
  w_on; o_law; k_head; (case hw => w_witness2)
  k_fill
  refine DL.law_end (l := PySem.Challenge.rw_overlook_k15_whole_three_things) (n := 63) (k := 11) (x := "_law_script") (m := DL.m_law) rfl (by decide) rfl ⟨rfl, by decide, by decide⟩ (fun w h Y => PySem.W.kIn_of Y) ?F DL.good
  case F =>
    intro w mg fa h KX G hmg
    refine' DL.all_mk KX G hmg ?a0 ?l0 ?c0 ?k0 ?a1 ?l1 ?c1 ?k1 ?a2 ?l2 ?c2 ?k2 ?a3 ?l3 ?c3 ?k3 ?a4 ?l4 ?c4 ?k4 ?a5 ?l5 ?c5 ?k5 ?a6 ?l6 ?c6 ?k6 ?a7 ?l7 ?c7 ?k7 ?a8 ?l8 ?c8 ?k8 ?a9 ?l9 ?c9 ?k9 ?a10 ?l10 ?c10 ?k10 ?a11 ?l11 ?c11 ?k11 ?a12 ?l12 ?c12 ?k12 ?a13 ?l13 ?c13 ?k13 ?a14 ?l14 ?c14 ?k14 ?a15 ?l15 ?c15 ?k15 ?a16 ?l16 ?c16 ?k16 ?a17 ?l17 ?c17 ?k17 ?a18 ?l18 ?c18 ?k18 ?a19 ?l19 ?c19 ?k19 ?a20 ?l20 ?c20 ?k20 ?a21 ?l21 ?c21 ?k21 ?a22 ?l22 ?c22 ?k22 ?a23 ?l23 ?c23 ?k23 ?a24 ?l24 ?c24 ?k24 ?a25 ?l25 ?c25 ?k25 ?z_all ?z_any ?z_bool ?z_enumerate ?z_int ?z_isinstance ?z_len ?z_list ?z_max ?z_min ?z_range ?z_sorted ?z_tuple ?z_zip ?c_MOST_THINGS
    (case a0 => k_is); (case l0 => k_is); (case c0 => k_is); (case k0 => k_is); (case a1 => k_is); (case l1 => k_is); (case c1 => k_is); (case k1 => k_is); (case a2 => k_is); (case l2 => k_is); (case c2 => k_is); (case k2 => k_is); (case a3 => k_is); (case l3 => k_is); (case c3 => k_is); (case k3 => k_is); (case a4 => k_is); (case l4 => k_is); (case c4 => k_is); (case k4 => k_is); (case a5 => k_is); (case l5 => k_is); (case c5 => k_is); (case k5 => k_is); (case a6 => k_is); (case l6 => k_is); (case c6 => k_is); (case k6 => k_is); (case a7 => k_is); (case l7 => k_is); (case c7 => k_is); (case k7 => k_is); (case a8 => k_is); (case l8 => k_is); (case c8 => k_is); (case k8 => k_is); (case a9 => k_is); (case l9 => k_is); (case c9 => k_is); (case k9 => k_is); (case a10 => k_is); (case l10 => k_is); (case c10 => k_is); (case k10 => k_is); (case a11 => k_is); (case l11 => k_is); (case c11 => k_is); (case k11 => k_is); (case a12 => k_is); (case l12 => k_is); (case c12 => k_is); (case k12 => k_is); (case a13 => k_is); (case l13 => k_is); (case c13 => k_is); (case k13 => k_is); (case a14 => k_is); (case l14 => k_is); (case c14 => k_is); (case k14 => k_is); (case a15 => k_is); (case l15 => k_is); (case c15 => k_is); (case k15 => k_is); (case a16 => k_is); (case l16 => k_is); (case c16 => k_is); (case k16 => k_is); (case a17 => k_is); (case l17 => k_is); (case c17 => k_is); (case k17 => k_is); (case a18 => k_is); (case l18 => k_is); (case c18 => k_is); (case k18 => k_is); (case a19 => k_is); (case l19 => k_is); (case c19 => k_is); (case k19 => k_is); (case a20 => k_is); (case l20 => k_is); (case c20 => k_is); (case k20 => k_is); (case a21 => k_is); (case l21 => k_is); (case c21 => k_is); (case k21 => k_is); (case a22 => k_is); (case l22 => k_is); (case c22 => k_is); (case k22 => k_is); (case a23 => k_is); (case l23 => k_is); (case c23 => k_is); (case k23 => k_is); (case a24 => k_is); (case l24 => k_is); (case c24 => k_is); (case k24 => k_is); (case a25 => k_is); (case l25 => k_is); (case c25 => k_is); (case k25 => k_is); (case z_all => k_is); (case z_any => k_is); (case z_bool => k_is); (case z_enumerate => k_is); (case z_int => k_is); (case z_isinstance => k_is); (case z_len => k_is); (case z_list => k_is); (case z_max => k_is); (case z_min => k_is); (case z_range => k_is); (case z_sorted => k_is); (case z_tuple => k_is); (case z_zip => k_is); (case c_MOST_THINGS => k_is)
